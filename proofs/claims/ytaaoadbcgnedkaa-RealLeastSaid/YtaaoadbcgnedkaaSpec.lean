/-
  The walks of package spec, of what a curve is, and of their references. Conditions: fields in range.
-/
import Derived.Test.YtaaoadbcgnedkaaRows
import Derived.Test.YtaaoadbcgnedkaaNum
import Derived.Laws.StructEq
namespace Go.Proofs.Ytaaoadbcgnedkaa
open Go.RowKit
set_option linter.unusedVariables false
set_option linter.unusedSimpArgs false

/-- What a curve is. -/
def kd (m d n : Int) : Int :=
  if m = 0 ∧ d = 0 ∧ n = 0 then 1 else if 4294967295 < m ∨ 4294967295 < n ∨ 1048576 < d then 0 else if d = 0 ∧ m = n then 2 else if 0 < d ∧ n < m then 3 else if 0 < d ∧ m = 0 ∧ 0 < n then 4 else 0
theorem kd_rng (m d n : Int) : 0 ≤ kd m d n ∧ kd m d n ≤ 4 := by unfold kd; (repeat' split) <;> omega
theorem cO_a (w : World) :
    Calls Try.prog 45 #[.agg #[.int .u64 0, .int .u64 0, .int .u64 0]] w fun e w' => e = .returned (.int .i64 1) ∧ Below w.heap.size w w' := by
  go_enter Try.func45, Try.ntmps45
  go_wp2
  all_goals
    go_ret
    exact ⟨rfl, by (repeat' (first | (with_reducible (first | exact Below.refl _ _ | assumption | refine below_drewN ?_ _ | refine Below.drew ?_ | refine Below.alloc ?_ ?_ _ | refine Below.setCell ?_ ?_ _)) | go_size))⟩
theorem cO_bpzz (m : Int) (w : World) (pm : 0 < m) (y0 : 4294967295 < m) :
    Calls Try.prog 45 #[.agg #[.int .u64 m, .int .u64 0, .int .u64 0]] w fun e w' => e = .returned (.int .i64 0) ∧ Below w.heap.size w w' := by
  have nm : (m == 0) = false := beq_eq_false_iff_ne.2 (by omega)
  have dt0 : decide (4294967295 < m) = true := decide_eq_true y0
  have dg0 : decide (m < 4294967295) = false := decide_eq_false (by omega)
  go_enter Try.func45, Try.ntmps45
  go_wp2
  all_goals
    go_ret
    exact ⟨rfl, by (repeat' (first | (with_reducible (first | exact Below.refl _ _ | assumption | refine below_drewN ?_ _ | refine Below.drew ?_ | refine Below.alloc ?_ ?_ _ | refine Below.setCell ?_ ?_ _)) | go_size))⟩
theorem cO_bpzp (m n : Int) (w : World) (pm : 0 < m) (pn : 0 < n) (y0 : 4294967295 < m) :
    Calls Try.prog 45 #[.agg #[.int .u64 m, .int .u64 0, .int .u64 n]] w fun e w' => e = .returned (.int .i64 0) ∧ Below w.heap.size w w' := by
  have nm : (m == 0) = false := beq_eq_false_iff_ne.2 (by omega)
  have nn : (n == 0) = false := beq_eq_false_iff_ne.2 (by omega)
  have dt0 : decide (4294967295 < m) = true := decide_eq_true y0
  have dg0 : decide (m < 4294967295) = false := decide_eq_false (by omega)
  go_enter Try.func45, Try.ntmps45
  go_wp2
  all_goals
    go_ret
    exact ⟨rfl, by (repeat' (first | (with_reducible (first | exact Below.refl _ _ | assumption | refine below_drewN ?_ _ | refine Below.drew ?_ | refine Below.alloc ?_ ?_ _ | refine Below.setCell ?_ ?_ _)) | go_size))⟩
theorem cO_bppz (m d : Int) (w : World) (pm : 0 < m) (pd : 0 < d) (y0 : 4294967295 < m) :
    Calls Try.prog 45 #[.agg #[.int .u64 m, .int .u64 d, .int .u64 0]] w fun e w' => e = .returned (.int .i64 0) ∧ Below w.heap.size w w' := by
  have nm : (m == 0) = false := beq_eq_false_iff_ne.2 (by omega)
  have nd : (d == 0) = false := beq_eq_false_iff_ne.2 (by omega)
  have dt0 : decide (4294967295 < m) = true := decide_eq_true y0
  have dg0 : decide (m < 4294967295) = false := decide_eq_false (by omega)
  go_enter Try.func45, Try.ntmps45
  go_wp2
  all_goals
    go_ret
    exact ⟨rfl, by (repeat' (first | (with_reducible (first | exact Below.refl _ _ | assumption | refine below_drewN ?_ _ | refine Below.drew ?_ | refine Below.alloc ?_ ?_ _ | refine Below.setCell ?_ ?_ _)) | go_size))⟩
theorem cO_bppp (m d n : Int) (w : World) (pm : 0 < m) (pd : 0 < d) (pn : 0 < n) (y0 : 4294967295 < m) :
    Calls Try.prog 45 #[.agg #[.int .u64 m, .int .u64 d, .int .u64 n]] w fun e w' => e = .returned (.int .i64 0) ∧ Below w.heap.size w w' := by
  have nm : (m == 0) = false := beq_eq_false_iff_ne.2 (by omega)
  have nd : (d == 0) = false := beq_eq_false_iff_ne.2 (by omega)
  have nn : (n == 0) = false := beq_eq_false_iff_ne.2 (by omega)
  have dt0 : decide (4294967295 < m) = true := decide_eq_true y0
  have dg0 : decide (m < 4294967295) = false := decide_eq_false (by omega)
  go_enter Try.func45, Try.ntmps45
  go_wp2
  all_goals
    go_ret
    exact ⟨rfl, by (repeat' (first | (with_reducible (first | exact Below.refl _ _ | assumption | refine below_drewN ?_ _ | refine Below.drew ?_ | refine Below.alloc ?_ ?_ _ | refine Below.setCell ?_ ?_ _)) | go_size))⟩
theorem cO_czzp (n : Int) (w : World) (pn : 0 < n) (y0 : 4294967295 < n) :
    Calls Try.prog 45 #[.agg #[.int .u64 0, .int .u64 0, .int .u64 n]] w fun e w' => e = .returned (.int .i64 0) ∧ Below w.heap.size w w' := by
  have nn : (n == 0) = false := beq_eq_false_iff_ne.2 (by omega)
  have dt0 : decide (4294967295 < n) = true := decide_eq_true y0
  have dg0 : decide (n < 4294967295) = false := decide_eq_false (by omega)
  go_enter Try.func45, Try.ntmps45
  go_wp2
  all_goals
    go_ret
    exact ⟨rfl, by (repeat' (first | (with_reducible (first | exact Below.refl _ _ | assumption | refine below_drewN ?_ _ | refine Below.drew ?_ | refine Below.alloc ?_ ?_ _ | refine Below.setCell ?_ ?_ _)) | go_size))⟩
theorem cO_czpp (d n : Int) (w : World) (pd : 0 < d) (pn : 0 < n) (y0 : 4294967295 < n) :
    Calls Try.prog 45 #[.agg #[.int .u64 0, .int .u64 d, .int .u64 n]] w fun e w' => e = .returned (.int .i64 0) ∧ Below w.heap.size w w' := by
  have nd : (d == 0) = false := beq_eq_false_iff_ne.2 (by omega)
  have nn : (n == 0) = false := beq_eq_false_iff_ne.2 (by omega)
  have dt0 : decide (4294967295 < n) = true := decide_eq_true y0
  have dg0 : decide (n < 4294967295) = false := decide_eq_false (by omega)
  go_enter Try.func45, Try.ntmps45
  go_wp2
  all_goals
    go_ret
    exact ⟨rfl, by (repeat' (first | (with_reducible (first | exact Below.refl _ _ | assumption | refine below_drewN ?_ _ | refine Below.drew ?_ | refine Below.alloc ?_ ?_ _ | refine Below.setCell ?_ ?_ _)) | go_size))⟩
theorem cO_cpzp (m n : Int) (w : World) (pm : 0 < m) (pn : 0 < n) (y0 : m ≤ 4294967295) (y1 : 4294967295 < n) :
    Calls Try.prog 45 #[.agg #[.int .u64 m, .int .u64 0, .int .u64 n]] w fun e w' => e = .returned (.int .i64 0) ∧ Below w.heap.size w w' := by
  have nm : (m == 0) = false := beq_eq_false_iff_ne.2 (by omega)
  have nn : (n == 0) = false := beq_eq_false_iff_ne.2 (by omega)
  have dg0 : decide (4294967295 < m) = false := decide_eq_false (by omega)
  have dt1 : decide (4294967295 < n) = true := decide_eq_true y1
  have dg1 : decide (n < 4294967295) = false := decide_eq_false (by omega)
  go_enter Try.func45, Try.ntmps45
  go_wp2
  all_goals
    go_ret
    exact ⟨rfl, by (repeat' (first | (with_reducible (first | exact Below.refl _ _ | assumption | refine below_drewN ?_ _ | refine Below.drew ?_ | refine Below.alloc ?_ ?_ _ | refine Below.setCell ?_ ?_ _)) | go_size))⟩
theorem cO_cppp (m d n : Int) (w : World) (pm : 0 < m) (pd : 0 < d) (pn : 0 < n) (y0 : m ≤ 4294967295) (y1 : 4294967295 < n) :
    Calls Try.prog 45 #[.agg #[.int .u64 m, .int .u64 d, .int .u64 n]] w fun e w' => e = .returned (.int .i64 0) ∧ Below w.heap.size w w' := by
  have nm : (m == 0) = false := beq_eq_false_iff_ne.2 (by omega)
  have nd : (d == 0) = false := beq_eq_false_iff_ne.2 (by omega)
  have nn : (n == 0) = false := beq_eq_false_iff_ne.2 (by omega)
  have dg0 : decide (4294967295 < m) = false := decide_eq_false (by omega)
  have dt1 : decide (4294967295 < n) = true := decide_eq_true y1
  have dg1 : decide (n < 4294967295) = false := decide_eq_false (by omega)
  go_enter Try.func45, Try.ntmps45
  go_wp2
  all_goals
    go_ret
    exact ⟨rfl, by (repeat' (first | (with_reducible (first | exact Below.refl _ _ | assumption | refine below_drewN ?_ _ | refine Below.drew ?_ | refine Below.alloc ?_ ?_ _ | refine Below.setCell ?_ ?_ _)) | go_size))⟩
theorem cO_dzpz (d : Int) (w : World) (pd : 0 < d) (y0 : 1048576 < d) :
    Calls Try.prog 45 #[.agg #[.int .u64 0, .int .u64 d, .int .u64 0]] w fun e w' => e = .returned (.int .i64 0) ∧ Below w.heap.size w w' := by
  have nd : (d == 0) = false := beq_eq_false_iff_ne.2 (by omega)
  have dt0 : decide (1048576 < d) = true := decide_eq_true y0
  have dg0 : decide (d < 1048576) = false := decide_eq_false (by omega)
  go_enter Try.func45, Try.ntmps45
  go_wp2
  all_goals
    go_ret
    exact ⟨rfl, by (repeat' (first | (with_reducible (first | exact Below.refl _ _ | assumption | refine below_drewN ?_ _ | refine Below.drew ?_ | refine Below.alloc ?_ ?_ _ | refine Below.setCell ?_ ?_ _)) | go_size))⟩
theorem cO_dzpp (d n : Int) (w : World) (pd : 0 < d) (pn : 0 < n) (y0 : n ≤ 4294967295) (y1 : 1048576 < d) :
    Calls Try.prog 45 #[.agg #[.int .u64 0, .int .u64 d, .int .u64 n]] w fun e w' => e = .returned (.int .i64 0) ∧ Below w.heap.size w w' := by
  have nd : (d == 0) = false := beq_eq_false_iff_ne.2 (by omega)
  have nn : (n == 0) = false := beq_eq_false_iff_ne.2 (by omega)
  have dg0 : decide (4294967295 < n) = false := decide_eq_false (by omega)
  have dt1 : decide (1048576 < d) = true := decide_eq_true y1
  have dg1 : decide (d < 1048576) = false := decide_eq_false (by omega)
  go_enter Try.func45, Try.ntmps45
  go_wp2
  all_goals
    go_ret
    exact ⟨rfl, by (repeat' (first | (with_reducible (first | exact Below.refl _ _ | assumption | refine below_drewN ?_ _ | refine Below.drew ?_ | refine Below.alloc ?_ ?_ _ | refine Below.setCell ?_ ?_ _)) | go_size))⟩
theorem cO_dppz (m d : Int) (w : World) (pm : 0 < m) (pd : 0 < d) (y0 : m ≤ 4294967295) (y1 : 1048576 < d) :
    Calls Try.prog 45 #[.agg #[.int .u64 m, .int .u64 d, .int .u64 0]] w fun e w' => e = .returned (.int .i64 0) ∧ Below w.heap.size w w' := by
  have nm : (m == 0) = false := beq_eq_false_iff_ne.2 (by omega)
  have nd : (d == 0) = false := beq_eq_false_iff_ne.2 (by omega)
  have dg0 : decide (4294967295 < m) = false := decide_eq_false (by omega)
  have dt1 : decide (1048576 < d) = true := decide_eq_true y1
  have dg1 : decide (d < 1048576) = false := decide_eq_false (by omega)
  go_enter Try.func45, Try.ntmps45
  go_wp2
  all_goals
    go_ret
    exact ⟨rfl, by (repeat' (first | (with_reducible (first | exact Below.refl _ _ | assumption | refine below_drewN ?_ _ | refine Below.drew ?_ | refine Below.alloc ?_ ?_ _ | refine Below.setCell ?_ ?_ _)) | go_size))⟩
theorem cO_dppp (m d n : Int) (w : World) (pm : 0 < m) (pd : 0 < d) (pn : 0 < n) (y0 : m ≤ 4294967295) (y1 : n ≤ 4294967295) (y2 : 1048576 < d) :
    Calls Try.prog 45 #[.agg #[.int .u64 m, .int .u64 d, .int .u64 n]] w fun e w' => e = .returned (.int .i64 0) ∧ Below w.heap.size w w' := by
  have nm : (m == 0) = false := beq_eq_false_iff_ne.2 (by omega)
  have nd : (d == 0) = false := beq_eq_false_iff_ne.2 (by omega)
  have nn : (n == 0) = false := beq_eq_false_iff_ne.2 (by omega)
  have dg0 : decide (4294967295 < m) = false := decide_eq_false (by omega)
  have dg1 : decide (4294967295 < n) = false := decide_eq_false (by omega)
  have dt2 : decide (1048576 < d) = true := decide_eq_true y2
  have dg2 : decide (d < 1048576) = false := decide_eq_false (by omega)
  go_enter Try.func45, Try.ntmps45
  go_wp2
  all_goals
    go_ret
    exact ⟨rfl, by (repeat' (first | (with_reducible (first | exact Below.refl _ _ | assumption | refine below_drewN ?_ _ | refine Below.drew ?_ | refine Below.alloc ?_ ?_ _ | refine Below.setCell ?_ ?_ _)) | go_size))⟩
theorem cO_e (m : Int) (w : World) (pm : 0 < m) (y0 : m ≤ 4294967295) :
    Calls Try.prog 45 #[.agg #[.int .u64 m, .int .u64 0, .int .u64 m]] w fun e w' => e = .returned (.int .i64 2) ∧ Below w.heap.size w w' := by
  have nm : (m == 0) = false := beq_eq_false_iff_ne.2 (by omega)
  have dg0 : decide (4294967295 < m) = false := decide_eq_false (by omega)
  go_enter Try.func45, Try.ntmps45
  go_wp2
  all_goals
    go_ret
    exact ⟨rfl, by (repeat' (first | (with_reducible (first | exact Below.refl _ _ | assumption | refine below_drewN ?_ _ | refine Below.drew ?_ | refine Below.alloc ?_ ?_ _ | refine Below.setCell ?_ ?_ _)) | go_size))⟩
theorem cO_f1 (n : Int) (w : World) (pn : 0 < n) (y0 : n ≤ 4294967295) :
    Calls Try.prog 45 #[.agg #[.int .u64 0, .int .u64 0, .int .u64 n]] w fun e w' => e = .returned (.int .i64 0) ∧ Below w.heap.size w w' := by
  have nn : (n == 0) = false := beq_eq_false_iff_ne.2 (by omega)
  have dg0 : decide (4294967295 < n) = false := decide_eq_false (by omega)
  have nn0 : ((0 : Int) == n) = false := beq_eq_false_iff_ne.2 (by omega)
  go_enter Try.func45, Try.ntmps45
  go_wp2
  all_goals
    go_ret
    exact ⟨rfl, by (repeat' (first | (with_reducible (first | exact Below.refl _ _ | assumption | refine below_drewN ?_ _ | refine Below.drew ?_ | refine Below.alloc ?_ ?_ _ | refine Below.setCell ?_ ?_ _)) | go_size))⟩
theorem cO_f2 (m : Int) (w : World) (pm : 0 < m) (y0 : m ≤ 4294967295) :
    Calls Try.prog 45 #[.agg #[.int .u64 m, .int .u64 0, .int .u64 0]] w fun e w' => e = .returned (.int .i64 0) ∧ Below w.heap.size w w' := by
  have nm : (m == 0) = false := beq_eq_false_iff_ne.2 (by omega)
  have dg0 : decide (4294967295 < m) = false := decide_eq_false (by omega)
  go_enter Try.func45, Try.ntmps45
  go_wp2
  all_goals
    go_ret
    exact ⟨rfl, by (repeat' (first | (with_reducible (first | exact Below.refl _ _ | assumption | refine below_drewN ?_ _ | refine Below.drew ?_ | refine Below.alloc ?_ ?_ _ | refine Below.setCell ?_ ?_ _)) | go_size))⟩
theorem cO_f3 (m n : Int) (w : World) (pm : 0 < m) (pn : 0 < n) (y0 : m ≤ 4294967295) (y1 : n ≤ 4294967295) (y2 : m < n) :
    Calls Try.prog 45 #[.agg #[.int .u64 m, .int .u64 0, .int .u64 n]] w fun e w' => e = .returned (.int .i64 0) ∧ Below w.heap.size w w' := by
  have nm : (m == 0) = false := beq_eq_false_iff_ne.2 (by omega)
  have nn : (n == 0) = false := beq_eq_false_iff_ne.2 (by omega)
  have dg0 : decide (4294967295 < m) = false := decide_eq_false (by omega)
  have dg1 : decide (4294967295 < n) = false := decide_eq_false (by omega)
  have dt2 : decide (m < n) = true := decide_eq_true y2
  have dg2 : decide (n < m) = false := decide_eq_false (by omega)
  have ne2 : (m == n) = false := beq_eq_false_iff_ne.2 (by omega)
  have nf2 : (m == n) = false := beq_eq_false_iff_ne.2 (by omega)
  go_enter Try.func45, Try.ntmps45
  go_wp2
  all_goals
    go_ret
    exact ⟨rfl, by (repeat' (first | (with_reducible (first | exact Below.refl _ _ | assumption | refine below_drewN ?_ _ | refine Below.drew ?_ | refine Below.alloc ?_ ?_ _ | refine Below.setCell ?_ ?_ _)) | go_size))⟩
theorem cO_f4 (m n : Int) (w : World) (pm : 0 < m) (pn : 0 < n) (y0 : m ≤ 4294967295) (y1 : n ≤ 4294967295) (y2 : n < m) :
    Calls Try.prog 45 #[.agg #[.int .u64 m, .int .u64 0, .int .u64 n]] w fun e w' => e = .returned (.int .i64 0) ∧ Below w.heap.size w w' := by
  have nm : (m == 0) = false := beq_eq_false_iff_ne.2 (by omega)
  have nn : (n == 0) = false := beq_eq_false_iff_ne.2 (by omega)
  have dg0 : decide (4294967295 < m) = false := decide_eq_false (by omega)
  have dg1 : decide (4294967295 < n) = false := decide_eq_false (by omega)
  have dt2 : decide (n < m) = true := decide_eq_true y2
  have dg2 : decide (m < n) = false := decide_eq_false (by omega)
  have ne2 : (n == m) = false := beq_eq_false_iff_ne.2 (by omega)
  have nf2 : (m == n) = false := beq_eq_false_iff_ne.2 (by omega)
  go_enter Try.func45, Try.ntmps45
  go_wp2
  all_goals
    go_ret
    exact ⟨rfl, by (repeat' (first | (with_reducible (first | exact Below.refl _ _ | assumption | refine below_drewN ?_ _ | refine Below.drew ?_ | refine Below.alloc ?_ ?_ _ | refine Below.setCell ?_ ?_ _)) | go_size))⟩
theorem cO_g1 (m d : Int) (w : World) (pm : 0 < m) (pd : 0 < d) (y0 : m ≤ 4294967295) (y1 : d ≤ 1048576) :
    Calls Try.prog 45 #[.agg #[.int .u64 m, .int .u64 d, .int .u64 0]] w fun e w' => e = .returned (.int .i64 3) ∧ Below w.heap.size w w' := by
  have nm : (m == 0) = false := beq_eq_false_iff_ne.2 (by omega)
  have nd : (d == 0) = false := beq_eq_false_iff_ne.2 (by omega)
  have dg0 : decide (4294967295 < m) = false := decide_eq_false (by omega)
  have dg1 : decide (1048576 < d) = false := decide_eq_false (by omega)
  go_enter Try.func45, Try.ntmps45
  go_wp2
  all_goals
    go_ret
    exact ⟨rfl, by (repeat' (first | (with_reducible (first | exact Below.refl _ _ | assumption | refine below_drewN ?_ _ | refine Below.drew ?_ | refine Below.alloc ?_ ?_ _ | refine Below.setCell ?_ ?_ _)) | go_size))⟩
theorem cO_g2 (m d n : Int) (w : World) (pm : 0 < m) (pd : 0 < d) (pn : 0 < n) (y0 : m ≤ 4294967295) (y1 : n ≤ 4294967295) (y2 : d ≤ 1048576) (y3 : n < m) :
    Calls Try.prog 45 #[.agg #[.int .u64 m, .int .u64 d, .int .u64 n]] w fun e w' => e = .returned (.int .i64 3) ∧ Below w.heap.size w w' := by
  have nm : (m == 0) = false := beq_eq_false_iff_ne.2 (by omega)
  have nd : (d == 0) = false := beq_eq_false_iff_ne.2 (by omega)
  have nn : (n == 0) = false := beq_eq_false_iff_ne.2 (by omega)
  have dg0 : decide (4294967295 < m) = false := decide_eq_false (by omega)
  have dg1 : decide (4294967295 < n) = false := decide_eq_false (by omega)
  have dg2 : decide (1048576 < d) = false := decide_eq_false (by omega)
  have dt3 : decide (n < m) = true := decide_eq_true y3
  have dg3 : decide (m < n) = false := decide_eq_false (by omega)
  have ne3 : (n == m) = false := beq_eq_false_iff_ne.2 (by omega)
  have nf3 : (m == n) = false := beq_eq_false_iff_ne.2 (by omega)
  go_enter Try.func45, Try.ntmps45
  go_wp2
  all_goals
    go_ret
    exact ⟨rfl, by (repeat' (first | (with_reducible (first | exact Below.refl _ _ | assumption | refine below_drewN ?_ _ | refine Below.drew ?_ | refine Below.alloc ?_ ?_ _ | refine Below.setCell ?_ ?_ _)) | go_size))⟩
theorem cO_h (d n : Int) (w : World) (pd : 0 < d) (pn : 0 < n) (y0 : n ≤ 4294967295) (y1 : d ≤ 1048576) :
    Calls Try.prog 45 #[.agg #[.int .u64 0, .int .u64 d, .int .u64 n]] w fun e w' => e = .returned (.int .i64 4) ∧ Below w.heap.size w w' := by
  have nd : (d == 0) = false := beq_eq_false_iff_ne.2 (by omega)
  have nn : (n == 0) = false := beq_eq_false_iff_ne.2 (by omega)
  have dg0 : decide (4294967295 < n) = false := decide_eq_false (by omega)
  have dg1 : decide (1048576 < d) = false := decide_eq_false (by omega)
  go_enter Try.func45, Try.ntmps45
  go_wp2
  all_goals
    go_ret
    exact ⟨rfl, by (repeat' (first | (with_reducible (first | exact Below.refl _ _ | assumption | refine below_drewN ?_ _ | refine Below.drew ?_ | refine Below.alloc ?_ ?_ _ | refine Below.setCell ?_ ?_ _)) | go_size))⟩
theorem cO_i (m d n : Int) (w : World) (pm : 0 < m) (pd : 0 < d) (pn : 0 < n) (y0 : m ≤ 4294967295) (y1 : n ≤ 4294967295) (y2 : d ≤ 1048576) (y3 : m ≤ n) :
    Calls Try.prog 45 #[.agg #[.int .u64 m, .int .u64 d, .int .u64 n]] w fun e w' => e = .returned (.int .i64 0) ∧ Below w.heap.size w w' := by
  have nm : (m == 0) = false := beq_eq_false_iff_ne.2 (by omega)
  have nd : (d == 0) = false := beq_eq_false_iff_ne.2 (by omega)
  have nn : (n == 0) = false := beq_eq_false_iff_ne.2 (by omega)
  have dg0 : decide (4294967295 < m) = false := decide_eq_false (by omega)
  have dg1 : decide (4294967295 < n) = false := decide_eq_false (by omega)
  have dg2 : decide (1048576 < d) = false := decide_eq_false (by omega)
  have dg3 : decide (n < m) = false := decide_eq_false (by omega)
  go_enter Try.func45, Try.ntmps45
  go_wp2
  all_goals
    go_ret
    exact ⟨rfl, by (repeat' (first | (with_reducible (first | exact Below.refl _ _ | assumption | refine below_drewN ?_ _ | refine Below.drew ?_ | refine Below.alloc ?_ ?_ _ | refine Below.setCell ?_ ?_ _)) | go_size))⟩
theorem cO_j (d : Int) (w : World) (pd : 0 < d) (y0 : d ≤ 1048576) :
    Calls Try.prog 45 #[.agg #[.int .u64 0, .int .u64 d, .int .u64 0]] w fun e w' => e = .returned (.int .i64 0) ∧ Below w.heap.size w w' := by
  have nd : (d == 0) = false := beq_eq_false_iff_ne.2 (by omega)
  have dg0 : decide (1048576 < d) = false := decide_eq_false (by omega)
  go_enter Try.func45, Try.ntmps45
  go_wp2
  all_goals
    go_ret
    exact ⟨rfl, by (repeat' (first | (with_reducible (first | exact Below.refl _ _ | assumption | refine below_drewN ?_ _ | refine Below.drew ?_ | refine Below.alloc ?_ ?_ _ | refine Below.setCell ?_ ?_ _)) | go_size))⟩
theorem curveOf_any (m d n c : Int) (w : World) (hm : 0 ≤ m) (hd : 0 ≤ d) (hn : 0 ≤ n) (h : kd m d n = c) :
    Calls Try.prog 45 #[.agg #[.int .u64 m, .int .u64 d, .int .u64 n]] w fun e w' => e = .returned (.int .i64 c) ∧ Below w.heap.size w w' := by
  subst h
  rcases Int.lt_or_eq_of_le hm with sm | sm <;> rcases Int.lt_or_eq_of_le hd with sd | sd <;> rcases Int.lt_or_eq_of_le hn with sn | sn <;> (try subst sm) <;> (try subst sd) <;> (try subst sn)
  · -- ppp
    by_cases q : 4294967295 < m
    · skip
      rw [show kd m d n = 0 by unfold kd; (repeat' split) <;> omega]; exact cO_bppp m d n w sm sd sn (by omega)
    by_cases q : 4294967295 < n
    · skip
      rw [show kd m d n = 0 by unfold kd; (repeat' split) <;> omega]; exact cO_cppp m d n w sm sd sn (by omega) (by omega)
    by_cases q : 1048576 < d
    · skip
      rw [show kd m d n = 0 by unfold kd; (repeat' split) <;> omega]; exact cO_dppp m d n w sm sd sn (by omega) (by omega) (by omega)
    by_cases q : n < m
    · skip
      rw [show kd m d n = 3 by unfold kd; (repeat' split) <;> omega]; exact cO_g2 m d n w sm sd sn (by omega) (by omega) (by omega) (by omega)
    rw [show kd m d n = 0 by unfold kd; (repeat' split) <;> omega]; exact cO_i m d n w sm sd sn (by omega) (by omega) (by omega) (by omega)
  · -- ppz
    by_cases q : 4294967295 < m
    · skip
      rw [show kd m d 0 = 0 by unfold kd; (repeat' split) <;> omega]; exact cO_bppz m d w sm sd (by omega)
    by_cases q : 1048576 < d
    · skip
      rw [show kd m d 0 = 0 by unfold kd; (repeat' split) <;> omega]; exact cO_dppz m d w sm sd (by omega) (by omega)
    rw [show kd m d 0 = 3 by unfold kd; (repeat' split) <;> omega]; exact cO_g1 m d w sm sd (by omega) (by omega)
  · -- pzp
    by_cases q : 4294967295 < m
    · skip
      rw [show kd m 0 n = 0 by unfold kd; (repeat' split) <;> omega]; exact cO_bpzp m n w sm sn (by omega)
    by_cases q : 4294967295 < n
    · skip
      rw [show kd m 0 n = 0 by unfold kd; (repeat' split) <;> omega]; exact cO_cpzp m n w sm sn (by omega) (by omega)
    by_cases q : m = n
    · subst q
      rw [show kd m 0 m = 2 by unfold kd; (repeat' split) <;> omega]; exact cO_e m w sm (by omega)
    by_cases q : m < n
    · skip
      rw [show kd m 0 n = 0 by unfold kd; (repeat' split) <;> omega]; exact cO_f3 m n w sm sn (by omega) (by omega) (by omega)
    rw [show kd m 0 n = 0 by unfold kd; (repeat' split) <;> omega]; exact cO_f4 m n w sm sn (by omega) (by omega) (by omega)
  · -- pzz
    by_cases q : 4294967295 < m
    · skip
      rw [show kd m 0 0 = 0 by unfold kd; (repeat' split) <;> omega]; exact cO_bpzz m w sm (by omega)
    rw [show kd m 0 0 = 0 by unfold kd; (repeat' split) <;> omega]; exact cO_f2 m w sm (by omega)
  · -- zpp
    by_cases q : 4294967295 < n
    · skip
      rw [show kd 0 d n = 0 by unfold kd; (repeat' split) <;> omega]; exact cO_czpp d n w sd sn (by omega)
    by_cases q : 1048576 < d
    · skip
      rw [show kd 0 d n = 0 by unfold kd; (repeat' split) <;> omega]; exact cO_dzpp d n w sd sn (by omega) (by omega)
    rw [show kd 0 d n = 4 by unfold kd; (repeat' split) <;> omega]; exact cO_h d n w sd sn (by omega) (by omega)
  · -- zpz
    by_cases q : 1048576 < d
    · skip
      rw [show kd 0 d 0 = 0 by unfold kd; (repeat' split) <;> omega]; exact cO_dzpz d w sd (by omega)
    rw [show kd 0 d 0 = 0 by unfold kd; (repeat' split) <;> omega]; exact cO_j d w sd (by omega)
  · -- zzp
    by_cases q : 4294967295 < n
    · skip
      rw [show kd 0 0 n = 0 by unfold kd; (repeat' split) <;> omega]; exact cO_czzp n w sn (by omega)
    rw [show kd 0 0 n = 0 by unfold kd; (repeat' split) <;> omega]; exact cO_f1 n w sn (by omega)
  · -- zzz
    rw [show kd 0 0 0 = 1 by unfold kd; (repeat' split) <;> omega]; exact cO_a  w  
theorem rO_a (w : World) :
    Calls Try.prog 46 #[.agg #[.int .u64 0, .int .u64 0, .int .u64 0]] w fun e w' => e = .returned (.int .i64 1) ∧ Below w.heap.size w w' := by
  go_enter Try.func46, Try.ntmps46
  go_wp2
  all_goals
    go_ret
    exact ⟨rfl, by (repeat' (first | (with_reducible (first | exact Below.refl _ _ | assumption | refine below_drewN ?_ _ | refine Below.drew ?_ | refine Below.alloc ?_ ?_ _ | refine Below.setCell ?_ ?_ _)) | go_size))⟩
theorem rO_bpzz (m : Int) (w : World) (pm : 0 < m) (y0 : 4294967295 < m) :
    Calls Try.prog 46 #[.agg #[.int .u64 m, .int .u64 0, .int .u64 0]] w fun e w' => e = .returned (.int .i64 0) ∧ Below w.heap.size w w' := by
  have nm : (m == 0) = false := beq_eq_false_iff_ne.2 (by omega)
  have dt0 : decide (4294967295 < m) = true := decide_eq_true y0
  have dg0 : decide (m < 4294967295) = false := decide_eq_false (by omega)
  go_enter Try.func46, Try.ntmps46
  go_wp2
  all_goals
    go_ret
    exact ⟨rfl, by (repeat' (first | (with_reducible (first | exact Below.refl _ _ | assumption | refine below_drewN ?_ _ | refine Below.drew ?_ | refine Below.alloc ?_ ?_ _ | refine Below.setCell ?_ ?_ _)) | go_size))⟩
theorem rO_bpzp (m n : Int) (w : World) (pm : 0 < m) (pn : 0 < n) (y0 : 4294967295 < m) :
    Calls Try.prog 46 #[.agg #[.int .u64 m, .int .u64 0, .int .u64 n]] w fun e w' => e = .returned (.int .i64 0) ∧ Below w.heap.size w w' := by
  have nm : (m == 0) = false := beq_eq_false_iff_ne.2 (by omega)
  have nn : (n == 0) = false := beq_eq_false_iff_ne.2 (by omega)
  have dt0 : decide (4294967295 < m) = true := decide_eq_true y0
  have dg0 : decide (m < 4294967295) = false := decide_eq_false (by omega)
  go_enter Try.func46, Try.ntmps46
  go_wp2
  all_goals
    go_ret
    exact ⟨rfl, by (repeat' (first | (with_reducible (first | exact Below.refl _ _ | assumption | refine below_drewN ?_ _ | refine Below.drew ?_ | refine Below.alloc ?_ ?_ _ | refine Below.setCell ?_ ?_ _)) | go_size))⟩
theorem rO_bppz (m d : Int) (w : World) (pm : 0 < m) (pd : 0 < d) (y0 : 4294967295 < m) :
    Calls Try.prog 46 #[.agg #[.int .u64 m, .int .u64 d, .int .u64 0]] w fun e w' => e = .returned (.int .i64 0) ∧ Below w.heap.size w w' := by
  have nm : (m == 0) = false := beq_eq_false_iff_ne.2 (by omega)
  have nd : (d == 0) = false := beq_eq_false_iff_ne.2 (by omega)
  have dt0 : decide (4294967295 < m) = true := decide_eq_true y0
  have dg0 : decide (m < 4294967295) = false := decide_eq_false (by omega)
  go_enter Try.func46, Try.ntmps46
  go_wp2
  all_goals
    go_ret
    exact ⟨rfl, by (repeat' (first | (with_reducible (first | exact Below.refl _ _ | assumption | refine below_drewN ?_ _ | refine Below.drew ?_ | refine Below.alloc ?_ ?_ _ | refine Below.setCell ?_ ?_ _)) | go_size))⟩
theorem rO_bppp (m d n : Int) (w : World) (pm : 0 < m) (pd : 0 < d) (pn : 0 < n) (y0 : 4294967295 < m) :
    Calls Try.prog 46 #[.agg #[.int .u64 m, .int .u64 d, .int .u64 n]] w fun e w' => e = .returned (.int .i64 0) ∧ Below w.heap.size w w' := by
  have nm : (m == 0) = false := beq_eq_false_iff_ne.2 (by omega)
  have nd : (d == 0) = false := beq_eq_false_iff_ne.2 (by omega)
  have nn : (n == 0) = false := beq_eq_false_iff_ne.2 (by omega)
  have dt0 : decide (4294967295 < m) = true := decide_eq_true y0
  have dg0 : decide (m < 4294967295) = false := decide_eq_false (by omega)
  go_enter Try.func46, Try.ntmps46
  go_wp2
  all_goals
    go_ret
    exact ⟨rfl, by (repeat' (first | (with_reducible (first | exact Below.refl _ _ | assumption | refine below_drewN ?_ _ | refine Below.drew ?_ | refine Below.alloc ?_ ?_ _ | refine Below.setCell ?_ ?_ _)) | go_size))⟩
theorem rO_czzp (n : Int) (w : World) (pn : 0 < n) (y0 : 4294967295 < n) :
    Calls Try.prog 46 #[.agg #[.int .u64 0, .int .u64 0, .int .u64 n]] w fun e w' => e = .returned (.int .i64 0) ∧ Below w.heap.size w w' := by
  have nn : (n == 0) = false := beq_eq_false_iff_ne.2 (by omega)
  have dt0 : decide (4294967295 < n) = true := decide_eq_true y0
  have dg0 : decide (n < 4294967295) = false := decide_eq_false (by omega)
  go_enter Try.func46, Try.ntmps46
  go_wp2
  all_goals
    go_ret
    exact ⟨rfl, by (repeat' (first | (with_reducible (first | exact Below.refl _ _ | assumption | refine below_drewN ?_ _ | refine Below.drew ?_ | refine Below.alloc ?_ ?_ _ | refine Below.setCell ?_ ?_ _)) | go_size))⟩
theorem rO_czpp (d n : Int) (w : World) (pd : 0 < d) (pn : 0 < n) (y0 : 4294967295 < n) :
    Calls Try.prog 46 #[.agg #[.int .u64 0, .int .u64 d, .int .u64 n]] w fun e w' => e = .returned (.int .i64 0) ∧ Below w.heap.size w w' := by
  have nd : (d == 0) = false := beq_eq_false_iff_ne.2 (by omega)
  have nn : (n == 0) = false := beq_eq_false_iff_ne.2 (by omega)
  have dt0 : decide (4294967295 < n) = true := decide_eq_true y0
  have dg0 : decide (n < 4294967295) = false := decide_eq_false (by omega)
  go_enter Try.func46, Try.ntmps46
  go_wp2
  all_goals
    go_ret
    exact ⟨rfl, by (repeat' (first | (with_reducible (first | exact Below.refl _ _ | assumption | refine below_drewN ?_ _ | refine Below.drew ?_ | refine Below.alloc ?_ ?_ _ | refine Below.setCell ?_ ?_ _)) | go_size))⟩
theorem rO_cpzp (m n : Int) (w : World) (pm : 0 < m) (pn : 0 < n) (y0 : m ≤ 4294967295) (y1 : 4294967295 < n) :
    Calls Try.prog 46 #[.agg #[.int .u64 m, .int .u64 0, .int .u64 n]] w fun e w' => e = .returned (.int .i64 0) ∧ Below w.heap.size w w' := by
  have nm : (m == 0) = false := beq_eq_false_iff_ne.2 (by omega)
  have nn : (n == 0) = false := beq_eq_false_iff_ne.2 (by omega)
  have dg0 : decide (4294967295 < m) = false := decide_eq_false (by omega)
  have dt1 : decide (4294967295 < n) = true := decide_eq_true y1
  have dg1 : decide (n < 4294967295) = false := decide_eq_false (by omega)
  go_enter Try.func46, Try.ntmps46
  go_wp2
  all_goals
    go_ret
    exact ⟨rfl, by (repeat' (first | (with_reducible (first | exact Below.refl _ _ | assumption | refine below_drewN ?_ _ | refine Below.drew ?_ | refine Below.alloc ?_ ?_ _ | refine Below.setCell ?_ ?_ _)) | go_size))⟩
theorem rO_cppp (m d n : Int) (w : World) (pm : 0 < m) (pd : 0 < d) (pn : 0 < n) (y0 : m ≤ 4294967295) (y1 : 4294967295 < n) :
    Calls Try.prog 46 #[.agg #[.int .u64 m, .int .u64 d, .int .u64 n]] w fun e w' => e = .returned (.int .i64 0) ∧ Below w.heap.size w w' := by
  have nm : (m == 0) = false := beq_eq_false_iff_ne.2 (by omega)
  have nd : (d == 0) = false := beq_eq_false_iff_ne.2 (by omega)
  have nn : (n == 0) = false := beq_eq_false_iff_ne.2 (by omega)
  have dg0 : decide (4294967295 < m) = false := decide_eq_false (by omega)
  have dt1 : decide (4294967295 < n) = true := decide_eq_true y1
  have dg1 : decide (n < 4294967295) = false := decide_eq_false (by omega)
  go_enter Try.func46, Try.ntmps46
  go_wp2
  all_goals
    go_ret
    exact ⟨rfl, by (repeat' (first | (with_reducible (first | exact Below.refl _ _ | assumption | refine below_drewN ?_ _ | refine Below.drew ?_ | refine Below.alloc ?_ ?_ _ | refine Below.setCell ?_ ?_ _)) | go_size))⟩
theorem rO_dzpz (d : Int) (w : World) (pd : 0 < d) (y0 : 1048576 < d) :
    Calls Try.prog 46 #[.agg #[.int .u64 0, .int .u64 d, .int .u64 0]] w fun e w' => e = .returned (.int .i64 0) ∧ Below w.heap.size w w' := by
  have nd : (d == 0) = false := beq_eq_false_iff_ne.2 (by omega)
  have dt0 : decide (1048576 < d) = true := decide_eq_true y0
  have dg0 : decide (d < 1048576) = false := decide_eq_false (by omega)
  go_enter Try.func46, Try.ntmps46
  go_wp2
  all_goals
    go_ret
    exact ⟨rfl, by (repeat' (first | (with_reducible (first | exact Below.refl _ _ | assumption | refine below_drewN ?_ _ | refine Below.drew ?_ | refine Below.alloc ?_ ?_ _ | refine Below.setCell ?_ ?_ _)) | go_size))⟩
theorem rO_dzpp (d n : Int) (w : World) (pd : 0 < d) (pn : 0 < n) (y0 : n ≤ 4294967295) (y1 : 1048576 < d) :
    Calls Try.prog 46 #[.agg #[.int .u64 0, .int .u64 d, .int .u64 n]] w fun e w' => e = .returned (.int .i64 0) ∧ Below w.heap.size w w' := by
  have nd : (d == 0) = false := beq_eq_false_iff_ne.2 (by omega)
  have nn : (n == 0) = false := beq_eq_false_iff_ne.2 (by omega)
  have dg0 : decide (4294967295 < n) = false := decide_eq_false (by omega)
  have dt1 : decide (1048576 < d) = true := decide_eq_true y1
  have dg1 : decide (d < 1048576) = false := decide_eq_false (by omega)
  go_enter Try.func46, Try.ntmps46
  go_wp2
  all_goals
    go_ret
    exact ⟨rfl, by (repeat' (first | (with_reducible (first | exact Below.refl _ _ | assumption | refine below_drewN ?_ _ | refine Below.drew ?_ | refine Below.alloc ?_ ?_ _ | refine Below.setCell ?_ ?_ _)) | go_size))⟩
theorem rO_dppz (m d : Int) (w : World) (pm : 0 < m) (pd : 0 < d) (y0 : m ≤ 4294967295) (y1 : 1048576 < d) :
    Calls Try.prog 46 #[.agg #[.int .u64 m, .int .u64 d, .int .u64 0]] w fun e w' => e = .returned (.int .i64 0) ∧ Below w.heap.size w w' := by
  have nm : (m == 0) = false := beq_eq_false_iff_ne.2 (by omega)
  have nd : (d == 0) = false := beq_eq_false_iff_ne.2 (by omega)
  have dg0 : decide (4294967295 < m) = false := decide_eq_false (by omega)
  have dt1 : decide (1048576 < d) = true := decide_eq_true y1
  have dg1 : decide (d < 1048576) = false := decide_eq_false (by omega)
  go_enter Try.func46, Try.ntmps46
  go_wp2
  all_goals
    go_ret
    exact ⟨rfl, by (repeat' (first | (with_reducible (first | exact Below.refl _ _ | assumption | refine below_drewN ?_ _ | refine Below.drew ?_ | refine Below.alloc ?_ ?_ _ | refine Below.setCell ?_ ?_ _)) | go_size))⟩
theorem rO_dppp (m d n : Int) (w : World) (pm : 0 < m) (pd : 0 < d) (pn : 0 < n) (y0 : m ≤ 4294967295) (y1 : n ≤ 4294967295) (y2 : 1048576 < d) :
    Calls Try.prog 46 #[.agg #[.int .u64 m, .int .u64 d, .int .u64 n]] w fun e w' => e = .returned (.int .i64 0) ∧ Below w.heap.size w w' := by
  have nm : (m == 0) = false := beq_eq_false_iff_ne.2 (by omega)
  have nd : (d == 0) = false := beq_eq_false_iff_ne.2 (by omega)
  have nn : (n == 0) = false := beq_eq_false_iff_ne.2 (by omega)
  have dg0 : decide (4294967295 < m) = false := decide_eq_false (by omega)
  have dg1 : decide (4294967295 < n) = false := decide_eq_false (by omega)
  have dt2 : decide (1048576 < d) = true := decide_eq_true y2
  have dg2 : decide (d < 1048576) = false := decide_eq_false (by omega)
  go_enter Try.func46, Try.ntmps46
  go_wp2
  all_goals
    go_ret
    exact ⟨rfl, by (repeat' (first | (with_reducible (first | exact Below.refl _ _ | assumption | refine below_drewN ?_ _ | refine Below.drew ?_ | refine Below.alloc ?_ ?_ _ | refine Below.setCell ?_ ?_ _)) | go_size))⟩
theorem rO_e (m : Int) (w : World) (pm : 0 < m) (y0 : m ≤ 4294967295) :
    Calls Try.prog 46 #[.agg #[.int .u64 m, .int .u64 0, .int .u64 m]] w fun e w' => e = .returned (.int .i64 2) ∧ Below w.heap.size w w' := by
  have nm : (m == 0) = false := beq_eq_false_iff_ne.2 (by omega)
  have dg0 : decide (4294967295 < m) = false := decide_eq_false (by omega)
  go_enter Try.func46, Try.ntmps46
  go_wp2
  all_goals
    go_ret
    exact ⟨rfl, by (repeat' (first | (with_reducible (first | exact Below.refl _ _ | assumption | refine below_drewN ?_ _ | refine Below.drew ?_ | refine Below.alloc ?_ ?_ _ | refine Below.setCell ?_ ?_ _)) | go_size))⟩
theorem rO_f1 (n : Int) (w : World) (pn : 0 < n) (y0 : n ≤ 4294967295) :
    Calls Try.prog 46 #[.agg #[.int .u64 0, .int .u64 0, .int .u64 n]] w fun e w' => e = .returned (.int .i64 0) ∧ Below w.heap.size w w' := by
  have nn : (n == 0) = false := beq_eq_false_iff_ne.2 (by omega)
  have dg0 : decide (4294967295 < n) = false := decide_eq_false (by omega)
  have nn0 : ((0 : Int) == n) = false := beq_eq_false_iff_ne.2 (by omega)
  go_enter Try.func46, Try.ntmps46
  go_wp2
  all_goals
    go_ret
    exact ⟨rfl, by (repeat' (first | (with_reducible (first | exact Below.refl _ _ | assumption | refine below_drewN ?_ _ | refine Below.drew ?_ | refine Below.alloc ?_ ?_ _ | refine Below.setCell ?_ ?_ _)) | go_size))⟩
theorem rO_f2 (m : Int) (w : World) (pm : 0 < m) (y0 : m ≤ 4294967295) :
    Calls Try.prog 46 #[.agg #[.int .u64 m, .int .u64 0, .int .u64 0]] w fun e w' => e = .returned (.int .i64 0) ∧ Below w.heap.size w w' := by
  have nm : (m == 0) = false := beq_eq_false_iff_ne.2 (by omega)
  have dg0 : decide (4294967295 < m) = false := decide_eq_false (by omega)
  go_enter Try.func46, Try.ntmps46
  go_wp2
  all_goals
    go_ret
    exact ⟨rfl, by (repeat' (first | (with_reducible (first | exact Below.refl _ _ | assumption | refine below_drewN ?_ _ | refine Below.drew ?_ | refine Below.alloc ?_ ?_ _ | refine Below.setCell ?_ ?_ _)) | go_size))⟩
theorem rO_f3 (m n : Int) (w : World) (pm : 0 < m) (pn : 0 < n) (y0 : m ≤ 4294967295) (y1 : n ≤ 4294967295) (y2 : m < n) :
    Calls Try.prog 46 #[.agg #[.int .u64 m, .int .u64 0, .int .u64 n]] w fun e w' => e = .returned (.int .i64 0) ∧ Below w.heap.size w w' := by
  have nm : (m == 0) = false := beq_eq_false_iff_ne.2 (by omega)
  have nn : (n == 0) = false := beq_eq_false_iff_ne.2 (by omega)
  have dg0 : decide (4294967295 < m) = false := decide_eq_false (by omega)
  have dg1 : decide (4294967295 < n) = false := decide_eq_false (by omega)
  have dt2 : decide (m < n) = true := decide_eq_true y2
  have dg2 : decide (n < m) = false := decide_eq_false (by omega)
  have ne2 : (m == n) = false := beq_eq_false_iff_ne.2 (by omega)
  have nf2 : (m == n) = false := beq_eq_false_iff_ne.2 (by omega)
  go_enter Try.func46, Try.ntmps46
  go_wp2
  all_goals
    go_ret
    exact ⟨rfl, by (repeat' (first | (with_reducible (first | exact Below.refl _ _ | assumption | refine below_drewN ?_ _ | refine Below.drew ?_ | refine Below.alloc ?_ ?_ _ | refine Below.setCell ?_ ?_ _)) | go_size))⟩
theorem rO_f4 (m n : Int) (w : World) (pm : 0 < m) (pn : 0 < n) (y0 : m ≤ 4294967295) (y1 : n ≤ 4294967295) (y2 : n < m) :
    Calls Try.prog 46 #[.agg #[.int .u64 m, .int .u64 0, .int .u64 n]] w fun e w' => e = .returned (.int .i64 0) ∧ Below w.heap.size w w' := by
  have nm : (m == 0) = false := beq_eq_false_iff_ne.2 (by omega)
  have nn : (n == 0) = false := beq_eq_false_iff_ne.2 (by omega)
  have dg0 : decide (4294967295 < m) = false := decide_eq_false (by omega)
  have dg1 : decide (4294967295 < n) = false := decide_eq_false (by omega)
  have dt2 : decide (n < m) = true := decide_eq_true y2
  have dg2 : decide (m < n) = false := decide_eq_false (by omega)
  have ne2 : (n == m) = false := beq_eq_false_iff_ne.2 (by omega)
  have nf2 : (m == n) = false := beq_eq_false_iff_ne.2 (by omega)
  go_enter Try.func46, Try.ntmps46
  go_wp2
  all_goals
    go_ret
    exact ⟨rfl, by (repeat' (first | (with_reducible (first | exact Below.refl _ _ | assumption | refine below_drewN ?_ _ | refine Below.drew ?_ | refine Below.alloc ?_ ?_ _ | refine Below.setCell ?_ ?_ _)) | go_size))⟩
theorem rO_g1 (m d : Int) (w : World) (pm : 0 < m) (pd : 0 < d) (y0 : m ≤ 4294967295) (y1 : d ≤ 1048576) :
    Calls Try.prog 46 #[.agg #[.int .u64 m, .int .u64 d, .int .u64 0]] w fun e w' => e = .returned (.int .i64 3) ∧ Below w.heap.size w w' := by
  have nm : (m == 0) = false := beq_eq_false_iff_ne.2 (by omega)
  have nd : (d == 0) = false := beq_eq_false_iff_ne.2 (by omega)
  have dg0 : decide (4294967295 < m) = false := decide_eq_false (by omega)
  have dg1 : decide (1048576 < d) = false := decide_eq_false (by omega)
  go_enter Try.func46, Try.ntmps46
  go_wp2
  all_goals
    go_ret
    exact ⟨rfl, by (repeat' (first | (with_reducible (first | exact Below.refl _ _ | assumption | refine below_drewN ?_ _ | refine Below.drew ?_ | refine Below.alloc ?_ ?_ _ | refine Below.setCell ?_ ?_ _)) | go_size))⟩
theorem rO_g2 (m d n : Int) (w : World) (pm : 0 < m) (pd : 0 < d) (pn : 0 < n) (y0 : m ≤ 4294967295) (y1 : n ≤ 4294967295) (y2 : d ≤ 1048576) (y3 : n < m) :
    Calls Try.prog 46 #[.agg #[.int .u64 m, .int .u64 d, .int .u64 n]] w fun e w' => e = .returned (.int .i64 3) ∧ Below w.heap.size w w' := by
  have nm : (m == 0) = false := beq_eq_false_iff_ne.2 (by omega)
  have nd : (d == 0) = false := beq_eq_false_iff_ne.2 (by omega)
  have nn : (n == 0) = false := beq_eq_false_iff_ne.2 (by omega)
  have dg0 : decide (4294967295 < m) = false := decide_eq_false (by omega)
  have dg1 : decide (4294967295 < n) = false := decide_eq_false (by omega)
  have dg2 : decide (1048576 < d) = false := decide_eq_false (by omega)
  have dt3 : decide (n < m) = true := decide_eq_true y3
  have dg3 : decide (m < n) = false := decide_eq_false (by omega)
  have ne3 : (n == m) = false := beq_eq_false_iff_ne.2 (by omega)
  have nf3 : (m == n) = false := beq_eq_false_iff_ne.2 (by omega)
  go_enter Try.func46, Try.ntmps46
  go_wp2
  all_goals
    go_ret
    exact ⟨rfl, by (repeat' (first | (with_reducible (first | exact Below.refl _ _ | assumption | refine below_drewN ?_ _ | refine Below.drew ?_ | refine Below.alloc ?_ ?_ _ | refine Below.setCell ?_ ?_ _)) | go_size))⟩
theorem rO_h (d n : Int) (w : World) (pd : 0 < d) (pn : 0 < n) (y0 : n ≤ 4294967295) (y1 : d ≤ 1048576) :
    Calls Try.prog 46 #[.agg #[.int .u64 0, .int .u64 d, .int .u64 n]] w fun e w' => e = .returned (.int .i64 4) ∧ Below w.heap.size w w' := by
  have nd : (d == 0) = false := beq_eq_false_iff_ne.2 (by omega)
  have nn : (n == 0) = false := beq_eq_false_iff_ne.2 (by omega)
  have dg0 : decide (4294967295 < n) = false := decide_eq_false (by omega)
  have dg1 : decide (1048576 < d) = false := decide_eq_false (by omega)
  go_enter Try.func46, Try.ntmps46
  go_wp2
  all_goals
    go_ret
    exact ⟨rfl, by (repeat' (first | (with_reducible (first | exact Below.refl _ _ | assumption | refine below_drewN ?_ _ | refine Below.drew ?_ | refine Below.alloc ?_ ?_ _ | refine Below.setCell ?_ ?_ _)) | go_size))⟩
theorem rO_i (m d n : Int) (w : World) (pm : 0 < m) (pd : 0 < d) (pn : 0 < n) (y0 : m ≤ 4294967295) (y1 : n ≤ 4294967295) (y2 : d ≤ 1048576) (y3 : m ≤ n) :
    Calls Try.prog 46 #[.agg #[.int .u64 m, .int .u64 d, .int .u64 n]] w fun e w' => e = .returned (.int .i64 0) ∧ Below w.heap.size w w' := by
  have nm : (m == 0) = false := beq_eq_false_iff_ne.2 (by omega)
  have nd : (d == 0) = false := beq_eq_false_iff_ne.2 (by omega)
  have nn : (n == 0) = false := beq_eq_false_iff_ne.2 (by omega)
  have dg0 : decide (4294967295 < m) = false := decide_eq_false (by omega)
  have dg1 : decide (4294967295 < n) = false := decide_eq_false (by omega)
  have dg2 : decide (1048576 < d) = false := decide_eq_false (by omega)
  have dg3 : decide (n < m) = false := decide_eq_false (by omega)
  go_enter Try.func46, Try.ntmps46
  go_wp2
  all_goals
    go_ret
    exact ⟨rfl, by (repeat' (first | (with_reducible (first | exact Below.refl _ _ | assumption | refine below_drewN ?_ _ | refine Below.drew ?_ | refine Below.alloc ?_ ?_ _ | refine Below.setCell ?_ ?_ _)) | go_size))⟩
theorem rO_j (d : Int) (w : World) (pd : 0 < d) (y0 : d ≤ 1048576) :
    Calls Try.prog 46 #[.agg #[.int .u64 0, .int .u64 d, .int .u64 0]] w fun e w' => e = .returned (.int .i64 0) ∧ Below w.heap.size w w' := by
  have nd : (d == 0) = false := beq_eq_false_iff_ne.2 (by omega)
  have dg0 : decide (1048576 < d) = false := decide_eq_false (by omega)
  go_enter Try.func46, Try.ntmps46
  go_wp2
  all_goals
    go_ret
    exact ⟨rfl, by (repeat' (first | (with_reducible (first | exact Below.refl _ _ | assumption | refine below_drewN ?_ _ | refine Below.drew ?_ | refine Below.alloc ?_ ?_ _ | refine Below.setCell ?_ ?_ _)) | go_size))⟩
theorem rOf_any (m d n c : Int) (w : World) (hm : 0 ≤ m) (hd : 0 ≤ d) (hn : 0 ≤ n) (h : kd m d n = c) :
    Calls Try.prog 46 #[.agg #[.int .u64 m, .int .u64 d, .int .u64 n]] w fun e w' => e = .returned (.int .i64 c) ∧ Below w.heap.size w w' := by
  subst h
  rcases Int.lt_or_eq_of_le hm with sm | sm <;> rcases Int.lt_or_eq_of_le hd with sd | sd <;> rcases Int.lt_or_eq_of_le hn with sn | sn <;> (try subst sm) <;> (try subst sd) <;> (try subst sn)
  · -- ppp
    by_cases q : 4294967295 < m
    · skip
      rw [show kd m d n = 0 by unfold kd; (repeat' split) <;> omega]; exact rO_bppp m d n w sm sd sn (by omega)
    by_cases q : 4294967295 < n
    · skip
      rw [show kd m d n = 0 by unfold kd; (repeat' split) <;> omega]; exact rO_cppp m d n w sm sd sn (by omega) (by omega)
    by_cases q : 1048576 < d
    · skip
      rw [show kd m d n = 0 by unfold kd; (repeat' split) <;> omega]; exact rO_dppp m d n w sm sd sn (by omega) (by omega) (by omega)
    by_cases q : n < m
    · skip
      rw [show kd m d n = 3 by unfold kd; (repeat' split) <;> omega]; exact rO_g2 m d n w sm sd sn (by omega) (by omega) (by omega) (by omega)
    rw [show kd m d n = 0 by unfold kd; (repeat' split) <;> omega]; exact rO_i m d n w sm sd sn (by omega) (by omega) (by omega) (by omega)
  · -- ppz
    by_cases q : 4294967295 < m
    · skip
      rw [show kd m d 0 = 0 by unfold kd; (repeat' split) <;> omega]; exact rO_bppz m d w sm sd (by omega)
    by_cases q : 1048576 < d
    · skip
      rw [show kd m d 0 = 0 by unfold kd; (repeat' split) <;> omega]; exact rO_dppz m d w sm sd (by omega) (by omega)
    rw [show kd m d 0 = 3 by unfold kd; (repeat' split) <;> omega]; exact rO_g1 m d w sm sd (by omega) (by omega)
  · -- pzp
    by_cases q : 4294967295 < m
    · skip
      rw [show kd m 0 n = 0 by unfold kd; (repeat' split) <;> omega]; exact rO_bpzp m n w sm sn (by omega)
    by_cases q : 4294967295 < n
    · skip
      rw [show kd m 0 n = 0 by unfold kd; (repeat' split) <;> omega]; exact rO_cpzp m n w sm sn (by omega) (by omega)
    by_cases q : m = n
    · subst q
      rw [show kd m 0 m = 2 by unfold kd; (repeat' split) <;> omega]; exact rO_e m w sm (by omega)
    by_cases q : m < n
    · skip
      rw [show kd m 0 n = 0 by unfold kd; (repeat' split) <;> omega]; exact rO_f3 m n w sm sn (by omega) (by omega) (by omega)
    rw [show kd m 0 n = 0 by unfold kd; (repeat' split) <;> omega]; exact rO_f4 m n w sm sn (by omega) (by omega) (by omega)
  · -- pzz
    by_cases q : 4294967295 < m
    · skip
      rw [show kd m 0 0 = 0 by unfold kd; (repeat' split) <;> omega]; exact rO_bpzz m w sm (by omega)
    rw [show kd m 0 0 = 0 by unfold kd; (repeat' split) <;> omega]; exact rO_f2 m w sm (by omega)
  · -- zpp
    by_cases q : 4294967295 < n
    · skip
      rw [show kd 0 d n = 0 by unfold kd; (repeat' split) <;> omega]; exact rO_czpp d n w sd sn (by omega)
    by_cases q : 1048576 < d
    · skip
      rw [show kd 0 d n = 0 by unfold kd; (repeat' split) <;> omega]; exact rO_dzpp d n w sd sn (by omega) (by omega)
    rw [show kd 0 d n = 4 by unfold kd; (repeat' split) <;> omega]; exact rO_h d n w sd sn (by omega) (by omega)
  · -- zpz
    by_cases q : 1048576 < d
    · skip
      rw [show kd 0 d 0 = 0 by unfold kd; (repeat' split) <;> omega]; exact rO_dzpz d w sd (by omega)
    rw [show kd 0 d 0 = 0 by unfold kd; (repeat' split) <;> omega]; exact rO_j d w sd (by omega)
  · -- zzp
    by_cases q : 4294967295 < n
    · skip
      rw [show kd 0 0 n = 0 by unfold kd; (repeat' split) <;> omega]; exact rO_czzp n w sn (by omega)
    rw [show kd 0 0 n = 0 by unfold kd; (repeat' split) <;> omega]; exact rO_f1 n w sn (by omega)
  · -- zzz
    rw [show kd 0 0 0 = 1 by unfold kd; (repeat' split) <;> omega]; exact rO_a  w  
end Go.Proofs.Ytaaoadbcgnedkaa
