/-
  The walks of package spec and of its reference. Conditions: fields in range.
-/
import Derived.Test.YtapikbgloagnkaaSpec
import Derived.KernelRfl
namespace Go.Proofs.Ytapikbgloagnkaa
open Go.RowKit
set_option linter.unusedVariables false

/-- A class. -/
abbrev cls (id par : Int) (lf : Bool) (r0 r1 r2 l0 l1 l2 u0 u1 u2 pk by_ : Int) : Value := .agg #[.int .i64 id, .int .i64 par, .bool lf, .int .u64 r0, .int .u64 r1, .int .u64 r2, .int .u64 l0, .int .u64 l1, .int .u64 l2, .int .u64 u0, .int .u64 u1, .int .u64 u2, .int .i64 pk, .int .i64 by_]
def gt1 (k : Int) : Bool := decide (1 < k)
def frB (n l m : Int) : Bool := decide (l ≤ n ∧ n ≤ m)
theorem has_any (m d n : Int) (w : World) (h : 0 ≤ m ∧ 0 ≤ d ∧ 0 ≤ n) :
    Calls Try.prog 50 #[.agg #[.int .u64 m, .int .u64 d, .int .u64 n]] w fun e w' => e = .returned (.bool (gt1 (kd m d n))) ∧ Below w.heap.size w w' := by
  rcases hc : gt1 (kd m d n) with _ | _
  all_goals
    have hd : decide (1 < kd m d n) = _ := hc
    clear hc
    go_enter Try.func50, Try.ntmps50
    go_wp2_with fail
    refine (curveOf_any m d n _ _ h.1 h.2.1 h.2.2 rfl).mono ?_
    rintro e w1 ⟨rfl, hb1⟩
    have g1 : Below w.heap.size w w1 := by refine Below.trans ?_ (hb1.mono ?_) <;> (repeat' (first | (with_reducible exact Below.refl _ _) | (with_reducible assumption) | (with_reducible refine below_drewN ?_ _) | (with_reducible refine Below.drew ?_) | (with_reducible refine Below.alloc ?_ ?_ _) | (with_reducible refine Below.setCell ?_ ?_ _) | go_size))
    have hz1 := hb1.size
    (try simp at hz1)
    clear hb1
    go_wp2
    go_ret
    exact ⟨rfl, by (repeat' (first | (with_reducible exact Below.refl _ _) | (with_reducible assumption) | (with_reducible refine below_drewN ?_ _) | (with_reducible refine Below.drew ?_) | (with_reducible refine Below.alloc ?_ ?_ _) | (with_reducible refine Below.setCell ?_ ?_ _) | go_size))⟩
theorem cright_any (m d n : Int) (w : World) (h : 0 ≤ m ∧ 0 ≤ d ∧ 0 ≤ n) (b : Bool) (hb : (kd m d n != 0) = b) :
    Calls Try.prog 48 #[.agg #[.int .u64 m, .int .u64 d, .int .u64 n]] w fun e w' => e = .returned (.bool b) ∧ Below w.heap.size w w' := by
  subst hb
  go_enter Try.func48, Try.ntmps48
  go_wp2_with fail
  refine (curveOf_any m d n _ _ h.1 h.2.1 h.2.2 rfl).mono ?_
  rintro e w1 ⟨rfl, hb1⟩
  have g1 : Below w.heap.size w w1 := by refine Below.trans ?_ (hb1.mono ?_) <;> (repeat' (first | (with_reducible exact Below.refl _ _) | (with_reducible assumption) | (with_reducible refine below_drewN ?_ _) | (with_reducible refine Below.drew ?_) | (with_reducible refine Below.alloc ?_ ?_ _) | (with_reducible refine Below.setCell ?_ ?_ _) | go_size))
  have hz1 := hb1.size
  (try simp at hz1)
  clear hb1
  go_wp2
  go_ret
  exact ⟨rfl, by (repeat' (first | (with_reducible exact Below.refl _ _) | (with_reducible assumption) | (with_reducible refine below_drewN ?_ _) | (with_reducible refine Below.drew ?_) | (with_reducible refine Below.alloc ?_ ?_ _) | (with_reducible refine Below.setCell ?_ ?_ _) | go_size))⟩
theorem from_any (n l m : Int) (w : World) :
    Calls Try.prog 47 #[.int .i64 n, .int .i64 l, .int .i64 m] w fun e w' => e = .returned (.bool (frB n l m)) ∧ w = w' := by
  by_cases h1 : l ≤ n
  · by_cases h2 : n ≤ m
    · rw [show frB n l m = true from decide_eq_true ⟨h1, h2⟩]
      have d1 : decide (l ≤ n) = true := decide_eq_true h1
      go_enter Try.func47, Try.ntmps47
      go_wp2
      go_ret
      exact ⟨rfl, rfl⟩
    · rw [show frB n l m = false from decide_eq_false fun h => h2 h.2]
      have d1 : decide (l ≤ n) = true := decide_eq_true h1
      have d2 : decide (n ≤ m) = false := decide_eq_false h2
      go_enter Try.func47, Try.ntmps47
      go_wp2
      go_ret
      exact ⟨rfl, rfl⟩
  · rw [show frB n l m = false from decide_eq_false fun h => h1 h.1]
    have d1 : decide (l ≤ n) = false := decide_eq_false h1
    go_enter Try.func47, Try.ntmps47
    go_wp2
    go_ret
    exact ⟨rfl, rfl⟩
theorem real_any (id par : Int) (lf : Bool) (r0 r1 r2 l0 l1 l2 u0 u1 u2 pk by_ : Int) (w : World) (h : 0 ≤ r0 ∧ 0 ≤ r1 ∧ 0 ≤ r2) :
    Calls Try.prog 22 #[cls id par lf r0 r1 r2 l0 l1 l2 u0 u1 u2 pk by_] w fun e w' => e = .returned (.bool (gt1 (kd r0 r1 r2))) ∧ Below w.heap.size w w' := by
  go_enter Try.func22, Try.ntmps22
  go_wp2_with fail
  refine (has_any r0 r1 r2 _ h).mono ?_
  rintro e w1 ⟨rfl, hb1⟩
  have g1 : Below w.heap.size w w1 := by refine Below.trans ?_ (hb1.mono ?_) <;> (repeat' (first | (with_reducible exact Below.refl _ _) | (with_reducible assumption) | (with_reducible refine below_drewN ?_ _) | (with_reducible refine Below.drew ?_) | (with_reducible refine Below.alloc ?_ ?_ _) | (with_reducible refine Below.setCell ?_ ?_ _) | go_size))
  have hz1 := hb1.size
  (try simp at hz1)
  clear hb1
  go_wp2
  go_ret
  exact ⟨rfl, by (repeat' (first | (with_reducible exact Below.refl _ _) | (with_reducible assumption) | (with_reducible refine below_drewN ?_ _) | (with_reducible refine Below.drew ?_) | (with_reducible refine Below.alloc ?_ ?_ _) | (with_reducible refine Below.setCell ?_ ?_ _) | go_size))⟩
theorem shares_any (id par : Int) (lf : Bool) (r0 r1 r2 l0 l1 l2 u0 u1 u2 pk by_ : Int) (w : World) (h : 0 ≤ l0 ∧ 0 ≤ l1 ∧ 0 ≤ l2) :
    Calls Try.prog 24 #[cls id par lf r0 r1 r2 l0 l1 l2 u0 u1 u2 pk by_] w fun e w' => e = .returned (.bool (gt1 (kd l0 l1 l2))) ∧ Below w.heap.size w w' := by
  go_enter Try.func24, Try.ntmps24
  go_wp2_with fail
  refine (has_any l0 l1 l2 _ h).mono ?_
  rintro e w1 ⟨rfl, hb1⟩
  have g1 : Below w.heap.size w w1 := by refine Below.trans ?_ (hb1.mono ?_) <;> (repeat' (first | (with_reducible exact Below.refl _ _) | (with_reducible assumption) | (with_reducible refine below_drewN ?_ _) | (with_reducible refine Below.drew ?_) | (with_reducible refine Below.alloc ?_ ?_ _) | (with_reducible refine Below.setCell ?_ ?_ _) | go_size))
  have hz1 := hb1.size
  (try simp at hz1)
  clear hb1
  go_wp2
  go_ret
  exact ⟨rfl, by (repeat' (first | (with_reducible exact Below.refl _ _) | (with_reducible assumption) | (with_reducible refine below_drewN ?_ _) | (with_reducible refine Below.drew ?_) | (with_reducible refine Below.alloc ?_ ?_ _) | (with_reducible refine Below.setCell ?_ ?_ _) | go_size))⟩
theorem capped_any (id par : Int) (lf : Bool) (r0 r1 r2 l0 l1 l2 u0 u1 u2 pk by_ : Int) (w : World) (h : 0 ≤ u0 ∧ 0 ≤ u1 ∧ 0 ≤ u2) :
    Calls Try.prog 25 #[cls id par lf r0 r1 r2 l0 l1 l2 u0 u1 u2 pk by_] w fun e w' => e = .returned (.bool (gt1 (kd u0 u1 u2))) ∧ Below w.heap.size w w' := by
  go_enter Try.func25, Try.ntmps25
  go_wp2_with fail
  refine (has_any u0 u1 u2 _ h).mono ?_
  rintro e w1 ⟨rfl, hb1⟩
  have g1 : Below w.heap.size w w1 := by refine Below.trans ?_ (hb1.mono ?_) <;> (repeat' (first | (with_reducible exact Below.refl _ _) | (with_reducible assumption) | (with_reducible refine below_drewN ?_ _) | (with_reducible refine Below.drew ?_) | (with_reducible refine Below.alloc ?_ ?_ _) | (with_reducible refine Below.setCell ?_ ?_ _) | go_size))
  have hz1 := hb1.size
  (try simp at hz1)
  clear hb1
  go_wp2
  go_ret
  exact ⟨rfl, by (repeat' (first | (with_reducible exact Below.refl _ _) | (with_reducible assumption) | (with_reducible refine below_drewN ?_ _) | (with_reducible refine Below.drew ?_) | (with_reducible refine Below.alloc ?_ ?_ _) | (with_reducible refine Below.setCell ?_ ?_ _) | go_size))⟩
/-- Why a class may not be. -/
def wr (id par : Int) (lf : Bool) (r l u pk by_ : Int) : Int :=
  if id < 1 ∨ 65536 < id ∨ par < 0 ∨ 65536 < par ∨ id = par then 1
  else if r = 0 ∨ l = 0 ∨ u = 0 ∨ l = 4 ∨ u = 4 then 21
  else if 1 < u ∧ l = 1 then 29
  else if lf = true then (if pk < 1 ∨ 64 < pk ∨ by_ < 1 ∨ 1048576 < by_ ∨ r = 1 ∧ l = 1 then 29 else 0)
  else if pk ≠ 0 ∨ by_ ≠ 0 ∨ r ≠ 1 then 29 else 0
theorem right_id (id par : Int) (lf : Bool) (r0 r1 r2 l0 l1 l2 u0 u1 u2 pk by_ : Int) (w : World) (h : id < 1 ∨ 65536 < id ∨ par < 0 ∨ 65536 < par ∨ id = par) :
    Calls Try.prog 20 #[cls id par lf r0 r1 r2 l0 l1 l2 u0 u1 u2 pk by_] w fun e w' => e = .returned (.int .i64 1) ∧ Below w.heap.size w w' := by
  by_cases h1 : 1 ≤ id ∧ id ≤ 65536
  · have f1 : frB id 1 65536 = true := decide_eq_true h1
    by_cases h2 : 0 ≤ par ∧ par ≤ 65536
    · have f2 : frB par 0 65536 = true := decide_eq_true h2
      have f3 : (par == id) = true := beq_iff_eq.2 (by omega)
      go_enter Try.func20, Try.ntmps20
      go_wp2_with (first | (go_at_call 47; refine (from_any _ _ _ _).mono ?_; rintro e w' ⟨rfl, rfl⟩))
      go_ret
      exact ⟨rfl, by (repeat' (first | (with_reducible exact Below.refl _ _) | (with_reducible assumption) | (with_reducible refine below_drewN ?_ _) | (with_reducible refine Below.drew ?_) | (with_reducible refine Below.alloc ?_ ?_ _) | (with_reducible refine Below.setCell ?_ ?_ _) | go_size))⟩
    · have f2 : frB par 0 65536 = false := decide_eq_false h2
      go_enter Try.func20, Try.ntmps20
      go_wp2_with (first | (go_at_call 47; refine (from_any _ _ _ _).mono ?_; rintro e w' ⟨rfl, rfl⟩))
      go_ret
      exact ⟨rfl, by (repeat' (first | (with_reducible exact Below.refl _ _) | (with_reducible assumption) | (with_reducible refine below_drewN ?_ _) | (with_reducible refine Below.drew ?_) | (with_reducible refine Below.alloc ?_ ?_ _) | (with_reducible refine Below.setCell ?_ ?_ _) | go_size))⟩
  · have f1 : frB id 1 65536 = false := decide_eq_false h1
    go_enter Try.func20, Try.ntmps20
    go_wp2_with (first | (go_at_call 47; refine (from_any _ _ _ _).mono ?_; rintro e w' ⟨rfl, rfl⟩))
    go_ret
    exact ⟨rfl, by (repeat' (first | (with_reducible exact Below.refl _ _) | (with_reducible assumption) | (with_reducible refine below_drewN ?_ _) | (with_reducible refine Below.drew ?_) | (with_reducible refine Below.alloc ?_ ?_ _) | (with_reducible refine Below.setCell ?_ ?_ _) | go_size))⟩
set_option maxHeartbeats 1000000
theorem right_r0 (id par : Int) (lf : Bool) (r0 r1 r2 l0 l1 l2 u0 u1 u2 pk by_ : Int) (w : World) (hr : 0 ≤ r0 ∧ 0 ≤ r1 ∧ 0 ≤ r2) (hl : 0 ≤ l0 ∧ 0 ≤ l1 ∧ 0 ≤ l2) (hu : 0 ≤ u0 ∧ 0 ≤ u1 ∧ 0 ≤ u2) (hid : 1 ≤ id ∧ id ≤ 65536) (hpar : 0 ≤ par ∧ par ≤ 65536) (hne : id ≠ par) (qr : (kd r0 r1 r2 != 0) = false) :
    Calls Try.prog 20 #[cls id par lf r0 r1 r2 l0 l1 l2 u0 u1 u2 pk by_] w fun e w' => e = .returned (.int .i64 21) ∧ Below w.heap.size w w' := by
  have f1 : frB id 1 65536 = true := decide_eq_true hid
  have f2 : frB par 0 65536 = true := decide_eq_true hpar
  have f3 : (par == id) = false := beq_eq_false_iff_ne.2 (by omega)
  have i0 : ∀ v, (Instr.index 81 (.agg #[.int .u64 r0, .int .u64 r1, .int .u64 r2, .int .u64 l0, .int .u64 l1, .int .u64 l2, .int .u64 u0, .int .u64 u1, .int .u64 u2]) (.int .i64 0)).run Try.prog v = .ok (.agg #[.int .u64 r0, .int .u64 r1, .int .u64 r2]) v := fun _ => by kernel_rfl
  have i1 : ∀ v, (Instr.index 81 (.agg #[.int .u64 r0, .int .u64 r1, .int .u64 r2, .int .u64 l0, .int .u64 l1, .int .u64 l2, .int .u64 u0, .int .u64 u1, .int .u64 u2]) (.int .i64 1)).run Try.prog v = .ok (.agg #[.int .u64 l0, .int .u64 l1, .int .u64 l2]) v := fun _ => by kernel_rfl
  have i2 : ∀ v, (Instr.index 81 (.agg #[.int .u64 r0, .int .u64 r1, .int .u64 r2, .int .u64 l0, .int .u64 l1, .int .u64 l2, .int .u64 u0, .int .u64 u1, .int .u64 u2]) (.int .i64 2)).run Try.prog v = .ok (.agg #[.int .u64 u0, .int .u64 u1, .int .u64 u2]) v := fun _ => by kernel_rfl
  go_enter Try.func20, Try.ntmps20
  go_wp2_with (first | (go_at_call 47; refine (from_any _ _ _ _).mono ?_; rintro e w' ⟨rfl, rfl⟩))
  refine wp_loop_rounds 4 ?_
  rw [rounds_succ]
  go_wp2_with fail
  refine (cright_any r0 r1 r2 _ hr false qr).mono ?_
  rintro e w1 ⟨rfl, hb1⟩
  have A1 : Blk w1 (w.heap.size) #[.int .i64 id, .int .i64 par, .bool lf, .int .u64 r0, .int .u64 r1, .int .u64 r2, .int .u64 l0, .int .u64 l1, .int .u64 l2, .int .u64 u0, .int .u64 u1, .int .u64 u2, .int .i64 pk, .int .i64 by_] 32 := Blk.below (by (repeat' (first | (with_reducible assumption) | (with_reducible exact Blk.alloc_new _ _ _ (by first | rfl | (simp; done) | omega)) | (with_reducible refine Blk.drewN ?_ _) | (with_reducible refine Blk.drew ?_) | (with_reducible refine Blk.alloc_old ?_ _) | (with_reducible apply Blk.set_same) | (with_reducible refine Blk.set_other ?_ (by first | omega | (simp; done) | (simp; omega)) _) | (exact rfl)))) hb1 (by first | (simp; done) | omega | (simp; omega))
  have g1 : Below w.heap.size w w1 := by refine Below.trans ?_ (hb1.mono ?_) <;> (repeat' (first | (with_reducible exact Below.refl _ _) | (with_reducible assumption) | (with_reducible refine below_drewN ?_ _) | (with_reducible refine Below.drew ?_) | (with_reducible refine Below.alloc ?_ ?_ _) | (with_reducible refine Below.setCell ?_ ?_ _) | go_size))
  have hz1 := hb1.size
  (try simp at hz1)
  clear hb1
  replace cA := A1.cell
  replace fA := A1.frozen
  replace zA := A1.size
  go_wp2
  go_ret
  exact ⟨rfl, by (repeat' (first | (with_reducible exact Below.refl _ _) | (with_reducible assumption) | (with_reducible refine below_drewN ?_ _) | (with_reducible refine Below.drew ?_) | (with_reducible refine Below.alloc ?_ ?_ _) | (with_reducible refine Below.setCell ?_ ?_ _) | go_size))⟩
theorem right_l0 (id par : Int) (lf : Bool) (r0 r1 r2 l0 l1 l2 u0 u1 u2 pk by_ : Int) (w : World) (hr : 0 ≤ r0 ∧ 0 ≤ r1 ∧ 0 ≤ r2) (hl : 0 ≤ l0 ∧ 0 ≤ l1 ∧ 0 ≤ l2) (hu : 0 ≤ u0 ∧ 0 ≤ u1 ∧ 0 ≤ u2) (hid : 1 ≤ id ∧ id ≤ 65536) (hpar : 0 ≤ par ∧ par ≤ 65536) (hne : id ≠ par) (qr : (kd r0 r1 r2 != 0) = true) (ql : (kd l0 l1 l2 != 0) = false) :
    Calls Try.prog 20 #[cls id par lf r0 r1 r2 l0 l1 l2 u0 u1 u2 pk by_] w fun e w' => e = .returned (.int .i64 21) ∧ Below w.heap.size w w' := by
  have f1 : frB id 1 65536 = true := decide_eq_true hid
  have f2 : frB par 0 65536 = true := decide_eq_true hpar
  have f3 : (par == id) = false := beq_eq_false_iff_ne.2 (by omega)
  have i0 : ∀ v, (Instr.index 81 (.agg #[.int .u64 r0, .int .u64 r1, .int .u64 r2, .int .u64 l0, .int .u64 l1, .int .u64 l2, .int .u64 u0, .int .u64 u1, .int .u64 u2]) (.int .i64 0)).run Try.prog v = .ok (.agg #[.int .u64 r0, .int .u64 r1, .int .u64 r2]) v := fun _ => by kernel_rfl
  have i1 : ∀ v, (Instr.index 81 (.agg #[.int .u64 r0, .int .u64 r1, .int .u64 r2, .int .u64 l0, .int .u64 l1, .int .u64 l2, .int .u64 u0, .int .u64 u1, .int .u64 u2]) (.int .i64 1)).run Try.prog v = .ok (.agg #[.int .u64 l0, .int .u64 l1, .int .u64 l2]) v := fun _ => by kernel_rfl
  have i2 : ∀ v, (Instr.index 81 (.agg #[.int .u64 r0, .int .u64 r1, .int .u64 r2, .int .u64 l0, .int .u64 l1, .int .u64 l2, .int .u64 u0, .int .u64 u1, .int .u64 u2]) (.int .i64 2)).run Try.prog v = .ok (.agg #[.int .u64 u0, .int .u64 u1, .int .u64 u2]) v := fun _ => by kernel_rfl
  go_enter Try.func20, Try.ntmps20
  go_wp2_with (first | (go_at_call 47; refine (from_any _ _ _ _).mono ?_; rintro e w' ⟨rfl, rfl⟩))
  refine wp_loop_rounds 4 ?_
  rw [rounds_succ]
  go_wp2_with fail
  refine (cright_any r0 r1 r2 _ hr true qr).mono ?_
  rintro e w1 ⟨rfl, hb1⟩
  have A1 : Blk w1 (w.heap.size) #[.int .i64 id, .int .i64 par, .bool lf, .int .u64 r0, .int .u64 r1, .int .u64 r2, .int .u64 l0, .int .u64 l1, .int .u64 l2, .int .u64 u0, .int .u64 u1, .int .u64 u2, .int .i64 pk, .int .i64 by_] 32 := Blk.below (by (repeat' (first | (with_reducible assumption) | (with_reducible exact Blk.alloc_new _ _ _ (by first | rfl | (simp; done) | omega)) | (with_reducible refine Blk.drewN ?_ _) | (with_reducible refine Blk.drew ?_) | (with_reducible refine Blk.alloc_old ?_ _) | (with_reducible apply Blk.set_same) | (with_reducible refine Blk.set_other ?_ (by first | omega | (simp; done) | (simp; omega)) _) | (exact rfl)))) hb1 (by first | (simp; done) | omega | (simp; omega))
  have g1 : Below w.heap.size w w1 := by refine Below.trans ?_ (hb1.mono ?_) <;> (repeat' (first | (with_reducible exact Below.refl _ _) | (with_reducible assumption) | (with_reducible refine below_drewN ?_ _) | (with_reducible refine Below.drew ?_) | (with_reducible refine Below.alloc ?_ ?_ _) | (with_reducible refine Below.setCell ?_ ?_ _) | go_size))
  have hz1 := hb1.size
  (try simp at hz1)
  clear hb1
  replace cA := A1.cell
  replace fA := A1.frozen
  replace zA := A1.size
  go_wp2
  rw [rounds_succ]
  go_wp2_with fail
  refine (cright_any l0 l1 l2 _ hl false ql).mono ?_
  rintro e w2 ⟨rfl, hb2⟩
  have A2 : Blk w2 (w.heap.size) #[.int .i64 id, .int .i64 par, .bool lf, .int .u64 r0, .int .u64 r1, .int .u64 r2, .int .u64 l0, .int .u64 l1, .int .u64 l2, .int .u64 u0, .int .u64 u1, .int .u64 u2, .int .i64 pk, .int .i64 by_] 32 := Blk.below (by (repeat' (first | (with_reducible assumption) | (with_reducible exact Blk.alloc_new _ _ _ (by first | rfl | (simp; done) | omega)) | (with_reducible refine Blk.drewN ?_ _) | (with_reducible refine Blk.drew ?_) | (with_reducible refine Blk.alloc_old ?_ _) | (with_reducible apply Blk.set_same) | (with_reducible refine Blk.set_other ?_ (by first | omega | (simp; done) | (simp; omega)) _) | (exact rfl)))) hb2 (by first | (simp; done) | omega | (simp; omega))
  have X12 : Blk w2 (w1.heap.size) #[.int .u64 l0, .int .u64 l1, .int .u64 l2] 30 := Blk.below (by (repeat' (first | (with_reducible assumption) | (with_reducible exact Blk.alloc_new _ _ _ (by first | rfl | (simp; done) | omega)) | (with_reducible refine Blk.drewN ?_ _) | (with_reducible refine Blk.drew ?_) | (with_reducible refine Blk.alloc_old ?_ _) | (with_reducible apply Blk.set_same) | (with_reducible refine Blk.set_other ?_ (by first | omega | (simp; done) | (simp; omega)) _) | (exact rfl)))) hb2 (by first | (simp; done) | omega | (simp; omega))
  have g2 : Below w.heap.size w w2 := by refine Below.trans ?_ (hb2.mono ?_) <;> (repeat' (first | (with_reducible exact Below.refl _ _) | (with_reducible assumption) | (with_reducible refine below_drewN ?_ _) | (with_reducible refine Below.drew ?_) | (with_reducible refine Below.alloc ?_ ?_ _) | (with_reducible refine Below.setCell ?_ ?_ _) | go_size))
  have hz2 := hb2.size
  (try simp at hz2)
  clear hb2
  replace cA := A2.cell
  replace fA := A2.frozen
  replace zA := A2.size
  replace cX1 := X12.cell
  replace fX1 := X12.frozen
  replace zX1 := X12.size
  go_wp2
  go_ret
  exact ⟨rfl, by (repeat' (first | (with_reducible exact Below.refl _ _) | (with_reducible assumption) | (with_reducible refine below_drewN ?_ _) | (with_reducible refine Below.drew ?_) | (with_reducible refine Below.alloc ?_ ?_ _) | (with_reducible refine Below.setCell ?_ ?_ _) | go_size))⟩
theorem right_l4 (id par : Int) (lf : Bool) (r0 r1 r2 l0 l1 l2 u0 u1 u2 pk by_ : Int) (w : World) (hr : 0 ≤ r0 ∧ 0 ≤ r1 ∧ 0 ≤ r2) (hl : 0 ≤ l0 ∧ 0 ≤ l1 ∧ 0 ≤ l2) (hu : 0 ≤ u0 ∧ 0 ≤ u1 ∧ 0 ≤ u2) (hid : 1 ≤ id ∧ id ≤ 65536) (hpar : 0 ≤ par ∧ par ≤ 65536) (hne : id ≠ par) (qr : (kd r0 r1 r2 != 0) = true) (ql : (kd l0 l1 l2 != 0) = true) (sl : (kd l0 l1 l2 == 4) = true) :
    Calls Try.prog 20 #[cls id par lf r0 r1 r2 l0 l1 l2 u0 u1 u2 pk by_] w fun e w' => e = .returned (.int .i64 21) ∧ Below w.heap.size w w' := by
  have f1 : frB id 1 65536 = true := decide_eq_true hid
  have f2 : frB par 0 65536 = true := decide_eq_true hpar
  have f3 : (par == id) = false := beq_eq_false_iff_ne.2 (by omega)
  have i0 : ∀ v, (Instr.index 81 (.agg #[.int .u64 r0, .int .u64 r1, .int .u64 r2, .int .u64 l0, .int .u64 l1, .int .u64 l2, .int .u64 u0, .int .u64 u1, .int .u64 u2]) (.int .i64 0)).run Try.prog v = .ok (.agg #[.int .u64 r0, .int .u64 r1, .int .u64 r2]) v := fun _ => by kernel_rfl
  have i1 : ∀ v, (Instr.index 81 (.agg #[.int .u64 r0, .int .u64 r1, .int .u64 r2, .int .u64 l0, .int .u64 l1, .int .u64 l2, .int .u64 u0, .int .u64 u1, .int .u64 u2]) (.int .i64 1)).run Try.prog v = .ok (.agg #[.int .u64 l0, .int .u64 l1, .int .u64 l2]) v := fun _ => by kernel_rfl
  have i2 : ∀ v, (Instr.index 81 (.agg #[.int .u64 r0, .int .u64 r1, .int .u64 r2, .int .u64 l0, .int .u64 l1, .int .u64 l2, .int .u64 u0, .int .u64 u1, .int .u64 u2]) (.int .i64 2)).run Try.prog v = .ok (.agg #[.int .u64 u0, .int .u64 u1, .int .u64 u2]) v := fun _ => by kernel_rfl
  go_enter Try.func20, Try.ntmps20
  go_wp2_with (first | (go_at_call 47; refine (from_any _ _ _ _).mono ?_; rintro e w' ⟨rfl, rfl⟩))
  refine wp_loop_rounds 4 ?_
  rw [rounds_succ]
  go_wp2_with fail
  refine (cright_any r0 r1 r2 _ hr true qr).mono ?_
  rintro e w1 ⟨rfl, hb1⟩
  have A1 : Blk w1 (w.heap.size) #[.int .i64 id, .int .i64 par, .bool lf, .int .u64 r0, .int .u64 r1, .int .u64 r2, .int .u64 l0, .int .u64 l1, .int .u64 l2, .int .u64 u0, .int .u64 u1, .int .u64 u2, .int .i64 pk, .int .i64 by_] 32 := Blk.below (by (repeat' (first | (with_reducible assumption) | (with_reducible exact Blk.alloc_new _ _ _ (by first | rfl | (simp; done) | omega)) | (with_reducible refine Blk.drewN ?_ _) | (with_reducible refine Blk.drew ?_) | (with_reducible refine Blk.alloc_old ?_ _) | (with_reducible apply Blk.set_same) | (with_reducible refine Blk.set_other ?_ (by first | omega | (simp; done) | (simp; omega)) _) | (exact rfl)))) hb1 (by first | (simp; done) | omega | (simp; omega))
  have g1 : Below w.heap.size w w1 := by refine Below.trans ?_ (hb1.mono ?_) <;> (repeat' (first | (with_reducible exact Below.refl _ _) | (with_reducible assumption) | (with_reducible refine below_drewN ?_ _) | (with_reducible refine Below.drew ?_) | (with_reducible refine Below.alloc ?_ ?_ _) | (with_reducible refine Below.setCell ?_ ?_ _) | go_size))
  have hz1 := hb1.size
  (try simp at hz1)
  clear hb1
  replace cA := A1.cell
  replace fA := A1.frozen
  replace zA := A1.size
  go_wp2
  rw [rounds_succ]
  go_wp2_with fail
  refine (cright_any l0 l1 l2 _ hl true ql).mono ?_
  rintro e w2 ⟨rfl, hb2⟩
  have A2 : Blk w2 (w.heap.size) #[.int .i64 id, .int .i64 par, .bool lf, .int .u64 r0, .int .u64 r1, .int .u64 r2, .int .u64 l0, .int .u64 l1, .int .u64 l2, .int .u64 u0, .int .u64 u1, .int .u64 u2, .int .i64 pk, .int .i64 by_] 32 := Blk.below (by (repeat' (first | (with_reducible assumption) | (with_reducible exact Blk.alloc_new _ _ _ (by first | rfl | (simp; done) | omega)) | (with_reducible refine Blk.drewN ?_ _) | (with_reducible refine Blk.drew ?_) | (with_reducible refine Blk.alloc_old ?_ _) | (with_reducible apply Blk.set_same) | (with_reducible refine Blk.set_other ?_ (by first | omega | (simp; done) | (simp; omega)) _) | (exact rfl)))) hb2 (by first | (simp; done) | omega | (simp; omega))
  have X12 : Blk w2 (w1.heap.size) #[.int .u64 l0, .int .u64 l1, .int .u64 l2] 30 := Blk.below (by (repeat' (first | (with_reducible assumption) | (with_reducible exact Blk.alloc_new _ _ _ (by first | rfl | (simp; done) | omega)) | (with_reducible refine Blk.drewN ?_ _) | (with_reducible refine Blk.drew ?_) | (with_reducible refine Blk.alloc_old ?_ _) | (with_reducible apply Blk.set_same) | (with_reducible refine Blk.set_other ?_ (by first | omega | (simp; done) | (simp; omega)) _) | (exact rfl)))) hb2 (by first | (simp; done) | omega | (simp; omega))
  have g2 : Below w.heap.size w w2 := by refine Below.trans ?_ (hb2.mono ?_) <;> (repeat' (first | (with_reducible exact Below.refl _ _) | (with_reducible assumption) | (with_reducible refine below_drewN ?_ _) | (with_reducible refine Below.drew ?_) | (with_reducible refine Below.alloc ?_ ?_ _) | (with_reducible refine Below.setCell ?_ ?_ _) | go_size))
  have hz2 := hb2.size
  (try simp at hz2)
  clear hb2
  replace cA := A2.cell
  replace fA := A2.frozen
  replace zA := A2.size
  replace cX1 := X12.cell
  replace fX1 := X12.frozen
  replace zX1 := X12.size
  go_wp2_with fail
  refine (curveOf_any l0 l1 l2 _ _ hl.1 hl.2.1 hl.2.2 rfl).mono ?_
  rintro e w3 ⟨rfl, hb3⟩
  have A3 : Blk w3 (w.heap.size) #[.int .i64 id, .int .i64 par, .bool lf, .int .u64 r0, .int .u64 r1, .int .u64 r2, .int .u64 l0, .int .u64 l1, .int .u64 l2, .int .u64 u0, .int .u64 u1, .int .u64 u2, .int .i64 pk, .int .i64 by_] 32 := Blk.below (by (repeat' (first | (with_reducible assumption) | (with_reducible exact Blk.alloc_new _ _ _ (by first | rfl | (simp; done) | omega)) | (with_reducible refine Blk.drewN ?_ _) | (with_reducible refine Blk.drew ?_) | (with_reducible refine Blk.alloc_old ?_ _) | (with_reducible apply Blk.set_same) | (with_reducible refine Blk.set_other ?_ (by first | omega | (simp; done) | (simp; omega)) _) | (exact rfl)))) hb3 (by first | (simp; done) | omega | (simp; omega))
  have X13 : Blk w3 (w1.heap.size) #[.int .u64 l0, .int .u64 l1, .int .u64 l2] 30 := Blk.below (by (repeat' (first | (with_reducible assumption) | (with_reducible exact Blk.alloc_new _ _ _ (by first | rfl | (simp; done) | omega)) | (with_reducible refine Blk.drewN ?_ _) | (with_reducible refine Blk.drew ?_) | (with_reducible refine Blk.alloc_old ?_ _) | (with_reducible apply Blk.set_same) | (with_reducible refine Blk.set_other ?_ (by first | omega | (simp; done) | (simp; omega)) _) | (exact rfl)))) hb3 (by first | (simp; done) | omega | (simp; omega))
  have g3 : Below w.heap.size w w3 := by refine Below.trans ?_ (hb3.mono ?_) <;> (repeat' (first | (with_reducible exact Below.refl _ _) | (with_reducible assumption) | (with_reducible refine below_drewN ?_ _) | (with_reducible refine Below.drew ?_) | (with_reducible refine Below.alloc ?_ ?_ _) | (with_reducible refine Below.setCell ?_ ?_ _) | go_size))
  have hz3 := hb3.size
  (try simp at hz3)
  clear hb3
  replace cA := A3.cell
  replace fA := A3.frozen
  replace zA := A3.size
  replace cX1 := X13.cell
  replace fX1 := X13.frozen
  replace zX1 := X13.size
  go_wp2
  go_ret
  exact ⟨rfl, by (repeat' (first | (with_reducible exact Below.refl _ _) | (with_reducible assumption) | (with_reducible refine below_drewN ?_ _) | (with_reducible refine Below.drew ?_) | (with_reducible refine Below.alloc ?_ ?_ _) | (with_reducible refine Below.setCell ?_ ?_ _) | go_size))⟩
theorem right_u0 (id par : Int) (lf : Bool) (r0 r1 r2 l0 l1 l2 u0 u1 u2 pk by_ : Int) (w : World) (hr : 0 ≤ r0 ∧ 0 ≤ r1 ∧ 0 ≤ r2) (hl : 0 ≤ l0 ∧ 0 ≤ l1 ∧ 0 ≤ l2) (hu : 0 ≤ u0 ∧ 0 ≤ u1 ∧ 0 ≤ u2) (hid : 1 ≤ id ∧ id ≤ 65536) (hpar : 0 ≤ par ∧ par ≤ 65536) (hne : id ≠ par) (qr : (kd r0 r1 r2 != 0) = true) (ql : (kd l0 l1 l2 != 0) = true) (qu : (kd u0 u1 u2 != 0) = false) (sl : (kd l0 l1 l2 == 4) = false) :
    Calls Try.prog 20 #[cls id par lf r0 r1 r2 l0 l1 l2 u0 u1 u2 pk by_] w fun e w' => e = .returned (.int .i64 21) ∧ Below w.heap.size w w' := by
  have f1 : frB id 1 65536 = true := decide_eq_true hid
  have f2 : frB par 0 65536 = true := decide_eq_true hpar
  have f3 : (par == id) = false := beq_eq_false_iff_ne.2 (by omega)
  have i0 : ∀ v, (Instr.index 81 (.agg #[.int .u64 r0, .int .u64 r1, .int .u64 r2, .int .u64 l0, .int .u64 l1, .int .u64 l2, .int .u64 u0, .int .u64 u1, .int .u64 u2]) (.int .i64 0)).run Try.prog v = .ok (.agg #[.int .u64 r0, .int .u64 r1, .int .u64 r2]) v := fun _ => by kernel_rfl
  have i1 : ∀ v, (Instr.index 81 (.agg #[.int .u64 r0, .int .u64 r1, .int .u64 r2, .int .u64 l0, .int .u64 l1, .int .u64 l2, .int .u64 u0, .int .u64 u1, .int .u64 u2]) (.int .i64 1)).run Try.prog v = .ok (.agg #[.int .u64 l0, .int .u64 l1, .int .u64 l2]) v := fun _ => by kernel_rfl
  have i2 : ∀ v, (Instr.index 81 (.agg #[.int .u64 r0, .int .u64 r1, .int .u64 r2, .int .u64 l0, .int .u64 l1, .int .u64 l2, .int .u64 u0, .int .u64 u1, .int .u64 u2]) (.int .i64 2)).run Try.prog v = .ok (.agg #[.int .u64 u0, .int .u64 u1, .int .u64 u2]) v := fun _ => by kernel_rfl
  go_enter Try.func20, Try.ntmps20
  go_wp2_with (first | (go_at_call 47; refine (from_any _ _ _ _).mono ?_; rintro e w' ⟨rfl, rfl⟩))
  refine wp_loop_rounds 4 ?_
  rw [rounds_succ]
  go_wp2_with fail
  refine (cright_any r0 r1 r2 _ hr true qr).mono ?_
  rintro e w1 ⟨rfl, hb1⟩
  have A1 : Blk w1 (w.heap.size) #[.int .i64 id, .int .i64 par, .bool lf, .int .u64 r0, .int .u64 r1, .int .u64 r2, .int .u64 l0, .int .u64 l1, .int .u64 l2, .int .u64 u0, .int .u64 u1, .int .u64 u2, .int .i64 pk, .int .i64 by_] 32 := Blk.below (by (repeat' (first | (with_reducible assumption) | (with_reducible exact Blk.alloc_new _ _ _ (by first | rfl | (simp; done) | omega)) | (with_reducible refine Blk.drewN ?_ _) | (with_reducible refine Blk.drew ?_) | (with_reducible refine Blk.alloc_old ?_ _) | (with_reducible apply Blk.set_same) | (with_reducible refine Blk.set_other ?_ (by first | omega | (simp; done) | (simp; omega)) _) | (exact rfl)))) hb1 (by first | (simp; done) | omega | (simp; omega))
  have g1 : Below w.heap.size w w1 := by refine Below.trans ?_ (hb1.mono ?_) <;> (repeat' (first | (with_reducible exact Below.refl _ _) | (with_reducible assumption) | (with_reducible refine below_drewN ?_ _) | (with_reducible refine Below.drew ?_) | (with_reducible refine Below.alloc ?_ ?_ _) | (with_reducible refine Below.setCell ?_ ?_ _) | go_size))
  have hz1 := hb1.size
  (try simp at hz1)
  clear hb1
  replace cA := A1.cell
  replace fA := A1.frozen
  replace zA := A1.size
  go_wp2
  rw [rounds_succ]
  go_wp2_with fail
  refine (cright_any l0 l1 l2 _ hl true ql).mono ?_
  rintro e w2 ⟨rfl, hb2⟩
  have A2 : Blk w2 (w.heap.size) #[.int .i64 id, .int .i64 par, .bool lf, .int .u64 r0, .int .u64 r1, .int .u64 r2, .int .u64 l0, .int .u64 l1, .int .u64 l2, .int .u64 u0, .int .u64 u1, .int .u64 u2, .int .i64 pk, .int .i64 by_] 32 := Blk.below (by (repeat' (first | (with_reducible assumption) | (with_reducible exact Blk.alloc_new _ _ _ (by first | rfl | (simp; done) | omega)) | (with_reducible refine Blk.drewN ?_ _) | (with_reducible refine Blk.drew ?_) | (with_reducible refine Blk.alloc_old ?_ _) | (with_reducible apply Blk.set_same) | (with_reducible refine Blk.set_other ?_ (by first | omega | (simp; done) | (simp; omega)) _) | (exact rfl)))) hb2 (by first | (simp; done) | omega | (simp; omega))
  have X12 : Blk w2 (w1.heap.size) #[.int .u64 l0, .int .u64 l1, .int .u64 l2] 30 := Blk.below (by (repeat' (first | (with_reducible assumption) | (with_reducible exact Blk.alloc_new _ _ _ (by first | rfl | (simp; done) | omega)) | (with_reducible refine Blk.drewN ?_ _) | (with_reducible refine Blk.drew ?_) | (with_reducible refine Blk.alloc_old ?_ _) | (with_reducible apply Blk.set_same) | (with_reducible refine Blk.set_other ?_ (by first | omega | (simp; done) | (simp; omega)) _) | (exact rfl)))) hb2 (by first | (simp; done) | omega | (simp; omega))
  have g2 : Below w.heap.size w w2 := by refine Below.trans ?_ (hb2.mono ?_) <;> (repeat' (first | (with_reducible exact Below.refl _ _) | (with_reducible assumption) | (with_reducible refine below_drewN ?_ _) | (with_reducible refine Below.drew ?_) | (with_reducible refine Below.alloc ?_ ?_ _) | (with_reducible refine Below.setCell ?_ ?_ _) | go_size))
  have hz2 := hb2.size
  (try simp at hz2)
  clear hb2
  replace cA := A2.cell
  replace fA := A2.frozen
  replace zA := A2.size
  replace cX1 := X12.cell
  replace fX1 := X12.frozen
  replace zX1 := X12.size
  go_wp2_with fail
  refine (curveOf_any l0 l1 l2 _ _ hl.1 hl.2.1 hl.2.2 rfl).mono ?_
  rintro e w3 ⟨rfl, hb3⟩
  have A3 : Blk w3 (w.heap.size) #[.int .i64 id, .int .i64 par, .bool lf, .int .u64 r0, .int .u64 r1, .int .u64 r2, .int .u64 l0, .int .u64 l1, .int .u64 l2, .int .u64 u0, .int .u64 u1, .int .u64 u2, .int .i64 pk, .int .i64 by_] 32 := Blk.below (by (repeat' (first | (with_reducible assumption) | (with_reducible exact Blk.alloc_new _ _ _ (by first | rfl | (simp; done) | omega)) | (with_reducible refine Blk.drewN ?_ _) | (with_reducible refine Blk.drew ?_) | (with_reducible refine Blk.alloc_old ?_ _) | (with_reducible apply Blk.set_same) | (with_reducible refine Blk.set_other ?_ (by first | omega | (simp; done) | (simp; omega)) _) | (exact rfl)))) hb3 (by first | (simp; done) | omega | (simp; omega))
  have X13 : Blk w3 (w1.heap.size) #[.int .u64 l0, .int .u64 l1, .int .u64 l2] 30 := Blk.below (by (repeat' (first | (with_reducible assumption) | (with_reducible exact Blk.alloc_new _ _ _ (by first | rfl | (simp; done) | omega)) | (with_reducible refine Blk.drewN ?_ _) | (with_reducible refine Blk.drew ?_) | (with_reducible refine Blk.alloc_old ?_ _) | (with_reducible apply Blk.set_same) | (with_reducible refine Blk.set_other ?_ (by first | omega | (simp; done) | (simp; omega)) _) | (exact rfl)))) hb3 (by first | (simp; done) | omega | (simp; omega))
  have g3 : Below w.heap.size w w3 := by refine Below.trans ?_ (hb3.mono ?_) <;> (repeat' (first | (with_reducible exact Below.refl _ _) | (with_reducible assumption) | (with_reducible refine below_drewN ?_ _) | (with_reducible refine Below.drew ?_) | (with_reducible refine Below.alloc ?_ ?_ _) | (with_reducible refine Below.setCell ?_ ?_ _) | go_size))
  have hz3 := hb3.size
  (try simp at hz3)
  clear hb3
  replace cA := A3.cell
  replace fA := A3.frozen
  replace zA := A3.size
  replace cX1 := X13.cell
  replace fX1 := X13.frozen
  replace zX1 := X13.size
  go_wp2
  rw [rounds_succ]
  go_wp2_with fail
  refine (cright_any u0 u1 u2 _ hu false qu).mono ?_
  rintro e w4 ⟨rfl, hb4⟩
  have A4 : Blk w4 (w.heap.size) #[.int .i64 id, .int .i64 par, .bool lf, .int .u64 r0, .int .u64 r1, .int .u64 r2, .int .u64 l0, .int .u64 l1, .int .u64 l2, .int .u64 u0, .int .u64 u1, .int .u64 u2, .int .i64 pk, .int .i64 by_] 32 := Blk.below (by (repeat' (first | (with_reducible assumption) | (with_reducible exact Blk.alloc_new _ _ _ (by first | rfl | (simp; done) | omega)) | (with_reducible refine Blk.drewN ?_ _) | (with_reducible refine Blk.drew ?_) | (with_reducible refine Blk.alloc_old ?_ _) | (with_reducible apply Blk.set_same) | (with_reducible refine Blk.set_other ?_ (by first | omega | (simp; done) | (simp; omega)) _) | (exact rfl)))) hb4 (by first | (simp; done) | omega | (simp; omega))
  have X24 : Blk w4 (w3.heap.size) #[.int .u64 u0, .int .u64 u1, .int .u64 u2] 30 := Blk.below (by (repeat' (first | (with_reducible assumption) | (with_reducible exact Blk.alloc_new _ _ _ (by first | rfl | (simp; done) | omega)) | (with_reducible refine Blk.drewN ?_ _) | (with_reducible refine Blk.drew ?_) | (with_reducible refine Blk.alloc_old ?_ _) | (with_reducible apply Blk.set_same) | (with_reducible refine Blk.set_other ?_ (by first | omega | (simp; done) | (simp; omega)) _) | (exact rfl)))) hb4 (by first | (simp; done) | omega | (simp; omega))
  have g4 : Below w.heap.size w w4 := by refine Below.trans ?_ (hb4.mono ?_) <;> (repeat' (first | (with_reducible exact Below.refl _ _) | (with_reducible assumption) | (with_reducible refine below_drewN ?_ _) | (with_reducible refine Below.drew ?_) | (with_reducible refine Below.alloc ?_ ?_ _) | (with_reducible refine Below.setCell ?_ ?_ _) | go_size))
  have hz4 := hb4.size
  (try simp at hz4)
  clear hb4
  replace cA := A4.cell
  replace fA := A4.frozen
  replace zA := A4.size
  replace cX2 := X24.cell
  replace fX2 := X24.frozen
  replace zX2 := X24.size
  go_wp2
  go_ret
  exact ⟨rfl, by (repeat' (first | (with_reducible exact Below.refl _ _) | (with_reducible assumption) | (with_reducible refine below_drewN ?_ _) | (with_reducible refine Below.drew ?_) | (with_reducible refine Below.alloc ?_ ?_ _) | (with_reducible refine Below.setCell ?_ ?_ _) | go_size))⟩
theorem right_u4 (id par : Int) (lf : Bool) (r0 r1 r2 l0 l1 l2 u0 u1 u2 pk by_ : Int) (w : World) (hr : 0 ≤ r0 ∧ 0 ≤ r1 ∧ 0 ≤ r2) (hl : 0 ≤ l0 ∧ 0 ≤ l1 ∧ 0 ≤ l2) (hu : 0 ≤ u0 ∧ 0 ≤ u1 ∧ 0 ≤ u2) (hid : 1 ≤ id ∧ id ≤ 65536) (hpar : 0 ≤ par ∧ par ≤ 65536) (hne : id ≠ par) (qr : (kd r0 r1 r2 != 0) = true) (ql : (kd l0 l1 l2 != 0) = true) (qu : (kd u0 u1 u2 != 0) = true) (sl : (kd l0 l1 l2 == 4) = false) (su : (kd u0 u1 u2 == 4) = true) :
    Calls Try.prog 20 #[cls id par lf r0 r1 r2 l0 l1 l2 u0 u1 u2 pk by_] w fun e w' => e = .returned (.int .i64 21) ∧ Below w.heap.size w w' := by
  have f1 : frB id 1 65536 = true := decide_eq_true hid
  have f2 : frB par 0 65536 = true := decide_eq_true hpar
  have f3 : (par == id) = false := beq_eq_false_iff_ne.2 (by omega)
  have i0 : ∀ v, (Instr.index 81 (.agg #[.int .u64 r0, .int .u64 r1, .int .u64 r2, .int .u64 l0, .int .u64 l1, .int .u64 l2, .int .u64 u0, .int .u64 u1, .int .u64 u2]) (.int .i64 0)).run Try.prog v = .ok (.agg #[.int .u64 r0, .int .u64 r1, .int .u64 r2]) v := fun _ => by kernel_rfl
  have i1 : ∀ v, (Instr.index 81 (.agg #[.int .u64 r0, .int .u64 r1, .int .u64 r2, .int .u64 l0, .int .u64 l1, .int .u64 l2, .int .u64 u0, .int .u64 u1, .int .u64 u2]) (.int .i64 1)).run Try.prog v = .ok (.agg #[.int .u64 l0, .int .u64 l1, .int .u64 l2]) v := fun _ => by kernel_rfl
  have i2 : ∀ v, (Instr.index 81 (.agg #[.int .u64 r0, .int .u64 r1, .int .u64 r2, .int .u64 l0, .int .u64 l1, .int .u64 l2, .int .u64 u0, .int .u64 u1, .int .u64 u2]) (.int .i64 2)).run Try.prog v = .ok (.agg #[.int .u64 u0, .int .u64 u1, .int .u64 u2]) v := fun _ => by kernel_rfl
  go_enter Try.func20, Try.ntmps20
  go_wp2_with (first | (go_at_call 47; refine (from_any _ _ _ _).mono ?_; rintro e w' ⟨rfl, rfl⟩))
  refine wp_loop_rounds 4 ?_
  rw [rounds_succ]
  go_wp2_with fail
  refine (cright_any r0 r1 r2 _ hr true qr).mono ?_
  rintro e w1 ⟨rfl, hb1⟩
  have A1 : Blk w1 (w.heap.size) #[.int .i64 id, .int .i64 par, .bool lf, .int .u64 r0, .int .u64 r1, .int .u64 r2, .int .u64 l0, .int .u64 l1, .int .u64 l2, .int .u64 u0, .int .u64 u1, .int .u64 u2, .int .i64 pk, .int .i64 by_] 32 := Blk.below (by (repeat' (first | (with_reducible assumption) | (with_reducible exact Blk.alloc_new _ _ _ (by first | rfl | (simp; done) | omega)) | (with_reducible refine Blk.drewN ?_ _) | (with_reducible refine Blk.drew ?_) | (with_reducible refine Blk.alloc_old ?_ _) | (with_reducible apply Blk.set_same) | (with_reducible refine Blk.set_other ?_ (by first | omega | (simp; done) | (simp; omega)) _) | (exact rfl)))) hb1 (by first | (simp; done) | omega | (simp; omega))
  have g1 : Below w.heap.size w w1 := by refine Below.trans ?_ (hb1.mono ?_) <;> (repeat' (first | (with_reducible exact Below.refl _ _) | (with_reducible assumption) | (with_reducible refine below_drewN ?_ _) | (with_reducible refine Below.drew ?_) | (with_reducible refine Below.alloc ?_ ?_ _) | (with_reducible refine Below.setCell ?_ ?_ _) | go_size))
  have hz1 := hb1.size
  (try simp at hz1)
  clear hb1
  replace cA := A1.cell
  replace fA := A1.frozen
  replace zA := A1.size
  go_wp2
  rw [rounds_succ]
  go_wp2_with fail
  refine (cright_any l0 l1 l2 _ hl true ql).mono ?_
  rintro e w2 ⟨rfl, hb2⟩
  have A2 : Blk w2 (w.heap.size) #[.int .i64 id, .int .i64 par, .bool lf, .int .u64 r0, .int .u64 r1, .int .u64 r2, .int .u64 l0, .int .u64 l1, .int .u64 l2, .int .u64 u0, .int .u64 u1, .int .u64 u2, .int .i64 pk, .int .i64 by_] 32 := Blk.below (by (repeat' (first | (with_reducible assumption) | (with_reducible exact Blk.alloc_new _ _ _ (by first | rfl | (simp; done) | omega)) | (with_reducible refine Blk.drewN ?_ _) | (with_reducible refine Blk.drew ?_) | (with_reducible refine Blk.alloc_old ?_ _) | (with_reducible apply Blk.set_same) | (with_reducible refine Blk.set_other ?_ (by first | omega | (simp; done) | (simp; omega)) _) | (exact rfl)))) hb2 (by first | (simp; done) | omega | (simp; omega))
  have X12 : Blk w2 (w1.heap.size) #[.int .u64 l0, .int .u64 l1, .int .u64 l2] 30 := Blk.below (by (repeat' (first | (with_reducible assumption) | (with_reducible exact Blk.alloc_new _ _ _ (by first | rfl | (simp; done) | omega)) | (with_reducible refine Blk.drewN ?_ _) | (with_reducible refine Blk.drew ?_) | (with_reducible refine Blk.alloc_old ?_ _) | (with_reducible apply Blk.set_same) | (with_reducible refine Blk.set_other ?_ (by first | omega | (simp; done) | (simp; omega)) _) | (exact rfl)))) hb2 (by first | (simp; done) | omega | (simp; omega))
  have g2 : Below w.heap.size w w2 := by refine Below.trans ?_ (hb2.mono ?_) <;> (repeat' (first | (with_reducible exact Below.refl _ _) | (with_reducible assumption) | (with_reducible refine below_drewN ?_ _) | (with_reducible refine Below.drew ?_) | (with_reducible refine Below.alloc ?_ ?_ _) | (with_reducible refine Below.setCell ?_ ?_ _) | go_size))
  have hz2 := hb2.size
  (try simp at hz2)
  clear hb2
  replace cA := A2.cell
  replace fA := A2.frozen
  replace zA := A2.size
  replace cX1 := X12.cell
  replace fX1 := X12.frozen
  replace zX1 := X12.size
  go_wp2_with fail
  refine (curveOf_any l0 l1 l2 _ _ hl.1 hl.2.1 hl.2.2 rfl).mono ?_
  rintro e w3 ⟨rfl, hb3⟩
  have A3 : Blk w3 (w.heap.size) #[.int .i64 id, .int .i64 par, .bool lf, .int .u64 r0, .int .u64 r1, .int .u64 r2, .int .u64 l0, .int .u64 l1, .int .u64 l2, .int .u64 u0, .int .u64 u1, .int .u64 u2, .int .i64 pk, .int .i64 by_] 32 := Blk.below (by (repeat' (first | (with_reducible assumption) | (with_reducible exact Blk.alloc_new _ _ _ (by first | rfl | (simp; done) | omega)) | (with_reducible refine Blk.drewN ?_ _) | (with_reducible refine Blk.drew ?_) | (with_reducible refine Blk.alloc_old ?_ _) | (with_reducible apply Blk.set_same) | (with_reducible refine Blk.set_other ?_ (by first | omega | (simp; done) | (simp; omega)) _) | (exact rfl)))) hb3 (by first | (simp; done) | omega | (simp; omega))
  have X13 : Blk w3 (w1.heap.size) #[.int .u64 l0, .int .u64 l1, .int .u64 l2] 30 := Blk.below (by (repeat' (first | (with_reducible assumption) | (with_reducible exact Blk.alloc_new _ _ _ (by first | rfl | (simp; done) | omega)) | (with_reducible refine Blk.drewN ?_ _) | (with_reducible refine Blk.drew ?_) | (with_reducible refine Blk.alloc_old ?_ _) | (with_reducible apply Blk.set_same) | (with_reducible refine Blk.set_other ?_ (by first | omega | (simp; done) | (simp; omega)) _) | (exact rfl)))) hb3 (by first | (simp; done) | omega | (simp; omega))
  have g3 : Below w.heap.size w w3 := by refine Below.trans ?_ (hb3.mono ?_) <;> (repeat' (first | (with_reducible exact Below.refl _ _) | (with_reducible assumption) | (with_reducible refine below_drewN ?_ _) | (with_reducible refine Below.drew ?_) | (with_reducible refine Below.alloc ?_ ?_ _) | (with_reducible refine Below.setCell ?_ ?_ _) | go_size))
  have hz3 := hb3.size
  (try simp at hz3)
  clear hb3
  replace cA := A3.cell
  replace fA := A3.frozen
  replace zA := A3.size
  replace cX1 := X13.cell
  replace fX1 := X13.frozen
  replace zX1 := X13.size
  go_wp2
  rw [rounds_succ]
  go_wp2_with fail
  refine (cright_any u0 u1 u2 _ hu true qu).mono ?_
  rintro e w4 ⟨rfl, hb4⟩
  have A4 : Blk w4 (w.heap.size) #[.int .i64 id, .int .i64 par, .bool lf, .int .u64 r0, .int .u64 r1, .int .u64 r2, .int .u64 l0, .int .u64 l1, .int .u64 l2, .int .u64 u0, .int .u64 u1, .int .u64 u2, .int .i64 pk, .int .i64 by_] 32 := Blk.below (by (repeat' (first | (with_reducible assumption) | (with_reducible exact Blk.alloc_new _ _ _ (by first | rfl | (simp; done) | omega)) | (with_reducible refine Blk.drewN ?_ _) | (with_reducible refine Blk.drew ?_) | (with_reducible refine Blk.alloc_old ?_ _) | (with_reducible apply Blk.set_same) | (with_reducible refine Blk.set_other ?_ (by first | omega | (simp; done) | (simp; omega)) _) | (exact rfl)))) hb4 (by first | (simp; done) | omega | (simp; omega))
  have X24 : Blk w4 (w3.heap.size) #[.int .u64 u0, .int .u64 u1, .int .u64 u2] 30 := Blk.below (by (repeat' (first | (with_reducible assumption) | (with_reducible exact Blk.alloc_new _ _ _ (by first | rfl | (simp; done) | omega)) | (with_reducible refine Blk.drewN ?_ _) | (with_reducible refine Blk.drew ?_) | (with_reducible refine Blk.alloc_old ?_ _) | (with_reducible apply Blk.set_same) | (with_reducible refine Blk.set_other ?_ (by first | omega | (simp; done) | (simp; omega)) _) | (exact rfl)))) hb4 (by first | (simp; done) | omega | (simp; omega))
  have g4 : Below w.heap.size w w4 := by refine Below.trans ?_ (hb4.mono ?_) <;> (repeat' (first | (with_reducible exact Below.refl _ _) | (with_reducible assumption) | (with_reducible refine below_drewN ?_ _) | (with_reducible refine Below.drew ?_) | (with_reducible refine Below.alloc ?_ ?_ _) | (with_reducible refine Below.setCell ?_ ?_ _) | go_size))
  have hz4 := hb4.size
  (try simp at hz4)
  clear hb4
  replace cA := A4.cell
  replace fA := A4.frozen
  replace zA := A4.size
  replace cX2 := X24.cell
  replace fX2 := X24.frozen
  replace zX2 := X24.size
  go_wp2_with fail
  refine (curveOf_any u0 u1 u2 _ _ hu.1 hu.2.1 hu.2.2 rfl).mono ?_
  rintro e w5 ⟨rfl, hb5⟩
  have A5 : Blk w5 (w.heap.size) #[.int .i64 id, .int .i64 par, .bool lf, .int .u64 r0, .int .u64 r1, .int .u64 r2, .int .u64 l0, .int .u64 l1, .int .u64 l2, .int .u64 u0, .int .u64 u1, .int .u64 u2, .int .i64 pk, .int .i64 by_] 32 := Blk.below (by (repeat' (first | (with_reducible assumption) | (with_reducible exact Blk.alloc_new _ _ _ (by first | rfl | (simp; done) | omega)) | (with_reducible refine Blk.drewN ?_ _) | (with_reducible refine Blk.drew ?_) | (with_reducible refine Blk.alloc_old ?_ _) | (with_reducible apply Blk.set_same) | (with_reducible refine Blk.set_other ?_ (by first | omega | (simp; done) | (simp; omega)) _) | (exact rfl)))) hb5 (by first | (simp; done) | omega | (simp; omega))
  have X25 : Blk w5 (w3.heap.size) #[.int .u64 u0, .int .u64 u1, .int .u64 u2] 30 := Blk.below (by (repeat' (first | (with_reducible assumption) | (with_reducible exact Blk.alloc_new _ _ _ (by first | rfl | (simp; done) | omega)) | (with_reducible refine Blk.drewN ?_ _) | (with_reducible refine Blk.drew ?_) | (with_reducible refine Blk.alloc_old ?_ _) | (with_reducible apply Blk.set_same) | (with_reducible refine Blk.set_other ?_ (by first | omega | (simp; done) | (simp; omega)) _) | (exact rfl)))) hb5 (by first | (simp; done) | omega | (simp; omega))
  have g5 : Below w.heap.size w w5 := by refine Below.trans ?_ (hb5.mono ?_) <;> (repeat' (first | (with_reducible exact Below.refl _ _) | (with_reducible assumption) | (with_reducible refine below_drewN ?_ _) | (with_reducible refine Below.drew ?_) | (with_reducible refine Below.alloc ?_ ?_ _) | (with_reducible refine Below.setCell ?_ ?_ _) | go_size))
  have hz5 := hb5.size
  (try simp at hz5)
  clear hb5
  replace cA := A5.cell
  replace fA := A5.frozen
  replace zA := A5.size
  replace cX2 := X25.cell
  replace fX2 := X25.frozen
  replace zX2 := X25.size
  go_wp2
  go_ret
  exact ⟨rfl, by (repeat' (first | (with_reducible exact Below.refl _ _) | (with_reducible assumption) | (with_reducible refine below_drewN ?_ _) | (with_reducible refine Below.drew ?_) | (with_reducible refine Below.alloc ?_ ?_ _) | (with_reducible refine Below.setCell ?_ ?_ _) | go_size))⟩
end Go.Proofs.Ytapikbgloagnkaa
