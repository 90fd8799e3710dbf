/-
  The walks of the reference for wide numbers. Conditions: arguments in range.
-/
import Derived.Test.YtaaoadbcgnedkaaRows
import Derived.Test.YtaaoadbcgnedkaaNum
import Derived.Deep.QuietTactic
import Derived.BigQuiet
namespace Go.Proofs.Ytaaoadbcgnedkaa
open Go.RowKit

theorem rOf (v : Int) (w : World) (h0 : 0 ≤ v) (h1 : v ≤ 18446744073709551615) :
    Calls Try.prog 63 #[.int .u64 v] w fun e w' => e = .returned (nv v) ∧ Below w.heap.size w w' := by
  have e : nv v = .agg #[.int .u64 (v % 4294967296), .int .u64 (v / 4294967296), .int .u64 0, .int .u64 0] := (nv_eq (by omega) (by omega) (by omega) (by omega) (by omega)).symm
  rw [e]
  go_enter Try.func63, Try.ntmps63
  go_wp2
  go_returns
  exact ⟨rfl, by (repeat' (first | (with_reducible (first | exact Below.refl _ _ | assumption | refine below_drewN ?_ _ | refine Below.drew ?_ | refine Below.alloc ?_ ?_ _ | refine Below.setCell ?_ ?_ _)) | go_size))⟩
theorem rTwo (n : Int) (w : World) (hn : In128 n) :
    Calls Try.prog 48 #[.int .u64 (hi n), .int .u64 (lo n)] w fun e w' => e = .returned (nv n) ∧ Below w.heap.size w w' := by
  have r1 := hi_rng n; have r2 := lo_rng n
  have e : nv n = .agg #[.int .u64 (lo n % 4294967296), .int .u64 (lo n / 4294967296), .int .u64 (hi n % 4294967296), .int .u64 (hi n / 4294967296)] := (nv_eq (by omega) (by omega) (by omega) (by omega) (by unfold In128 at hn; unfold hi lo; omega)).symm
  rw [e]
  go_enter Try.func48, Try.ntmps48
  go_wp2
  go_returns
  exact ⟨rfl, by (repeat' (first | (with_reducible (first | exact Below.refl _ _ | assumption | refine below_drewN ?_ _ | refine Below.drew ?_ | refine Below.alloc ?_ ?_ _ | refine Below.setCell ?_ ?_ _)) | go_size))⟩
theorem rHi (n : Int) (w : World) :
    Calls Try.prog 74 #[nv n] w fun e w' => e = .returned (.int .u64 (hi n)) ∧ Below w.heap.size w w' := by
  have r0 := dg0_rng n; have r1 := dg1_rng n; have r2 := dg2_rng n; have r3 := dg3_rng n
  go_enter Try.func74, Try.ntmps74
  go_wp2
  go_returns
  exact ⟨reti (by unfold dg3 dg2 hi; omega), by (repeat' (first | (with_reducible (first | exact Below.refl _ _ | assumption | refine below_drewN ?_ _ | refine Below.drew ?_ | refine Below.alloc ?_ ?_ _ | refine Below.setCell ?_ ?_ _)) | go_size))⟩
theorem rLo (n : Int) (w : World) :
    Calls Try.prog 75 #[nv n] w fun e w' => e = .returned (.int .u64 (lo n)) ∧ Below w.heap.size w w' := by
  have r0 := dg0_rng n; have r1 := dg1_rng n; have r2 := dg2_rng n; have r3 := dg3_rng n
  go_enter Try.func75, Try.ntmps75
  go_wp2
  go_returns
  exact ⟨reti (by unfold dg1 dg0 lo; omega), by (repeat' (first | (with_reducible (first | exact Below.refl _ _ | assumption | refine below_drewN ?_ _ | refine Below.drew ?_ | refine Below.alloc ?_ ?_ _ | refine Below.setCell ?_ ?_ _)) | go_size))⟩
set_option maxRecDepth 100000 in
set_option maxHeartbeats 1000000 in
theorem rAdd (a b : Int) (w : World) (ha : In128 a) (hb : In128 b) :
    Calls Try.prog 62 #[nv a, nv b] w fun e w' => e = .returned (.tuple #[nv (m128 (a + b)), .int .u64 ((a + b) / 340282366920938463463374607431768211456)]) ∧ Below w.heap.size w w' := by
  have r0 := dg0_rng a; have r1 := dg1_rng a; have r2 := dg2_rng a; have r3 := dg3_rng a
  have s0 := dg0_rng b; have s1 := dg1_rng b; have s2 := dg2_rng b; have s3 := dg3_rng b
  go_enter Try.func62, Try.ntmps62
  go_wp2
  refine wp_loop_rounds 5 ?_
  iterate 4
    rw [rounds_succ]
    go_wp2
    go_quiet (fail)
    go_wp2
  rw [rounds_succ]
  go_wp2
  go_returns
  have da := dgs ha; have db := dgs hb
  refine ⟨ret_t (nv_eq (by omega) (by omega) (by omega) (by omega) ?_) ?_, by (repeat' (first | (with_reducible (first | exact Below.refl _ _ | assumption | refine below_drewN ?_ _ | refine Below.drew ?_ | refine Below.alloc ?_ ?_ _ | refine Below.setCell ?_ ?_ _)) | go_size))⟩
  · unfold m128; omega
  · omega
theorem rPlus (a b : Int) (w : World) (ha : In128 a) (hb : In128 b) :
    Calls Try.prog 40 #[nv a, nv b] w fun e w' => e = .returned (nv (m128 (a + b))) ∧ Below w.heap.size w w' := by
  go_enter Try.func40, Try.ntmps40
  go_wp2_with fail
  refine (rAdd a b _ ha hb).mono ?_
  rintro e w1 ⟨rfl, hb1⟩
  have hz1 := hb1.size
  (try simp at hz1)
  obtain ⟨hc1, hf1⟩ := bcell hb1
  try have z1 := Nat.lt_of_succ_le hz1
  have k1 : Below w.heap.size w w1 := by refine Below.trans ?_ (hb1.mono ?_) <;> (repeat' (first | (with_reducible (first | exact Below.refl _ _ | assumption | refine below_drewN ?_ _ | refine Below.drew ?_ | refine Below.alloc ?_ ?_ _ | refine Below.setCell ?_ ?_ _)) | go_size))
  have g1 := k1
  clear hb1 k1
  go_wp2
  refine bodyPost_ret (v := nv (m128 (a + b))) (by simp [results, Try.results40, go_sem, hc1, z1]) rfl ⟨rfl, by (repeat' (first | (with_reducible (first | exact Below.refl _ _ | assumption | refine below_drewN ?_ _ | refine Below.drew ?_ | refine Below.alloc ?_ ?_ _ | refine Below.setCell ?_ ?_ _)) | go_size))⟩
set_option maxRecDepth 100000 in
set_option maxHeartbeats 1000000 in
theorem rMinus (a b : Int) (w : World) (ha : In128 a) (hb : In128 b) :
    Calls Try.prog 67 #[nv a, nv b] w fun e w' => e = .returned (nv (m128 (a - b))) ∧ Below w.heap.size w w' := by
  have r0 := dg0_rng a; have r1 := dg1_rng a; have r2 := dg2_rng a; have r3 := dg3_rng a
  have s0 := dg0_rng b; have s1 := dg1_rng b; have s2 := dg2_rng b; have s3 := dg3_rng b
  go_enter Try.func67, Try.ntmps67
  go_wp2
  refine wp_loop_rounds 5 ?_
  iterate 4
    rw [rounds_succ]
    go_wp2
    go_quiet (fail)
    go_wp2
  rw [rounds_succ]
  go_wp2
  go_returns
  have da := dgs ha; have db := dgs hb
  refine ⟨ret1 (nv_eq (by omega) (by omega) (by omega) (by omega) ?_), by (repeat' (first | (with_reducible (first | exact Below.refl _ _ | assumption | refine below_drewN ?_ _ | refine Below.drew ?_ | refine Below.alloc ?_ ?_ _ | refine Below.setCell ?_ ?_ _)) | go_size))⟩
  unfold m128; omega
set_option maxHeartbeats 1000000 in
theorem rLess (a b : Int) (w : World) (ha : In128 a) (hb : In128 b) :
    Calls Try.prog 42 #[nv a, nv b] w fun e w' => e = .returned (.bool (decide (a < b))) ∧ Below w.heap.size w w' := by
  have r0 := dg0_rng a; have r1 := dg1_rng a; have r2 := dg2_rng a; have r3 := dg3_rng a
  have s0 := dg0_rng b; have s1 := dg1_rng b; have s2 := dg2_rng b; have s3 := dg3_rng b
  have da := hide (dgs ha); have db := hide (dgs hb)
  go_enter Try.func42, Try.ntmps42
  go_wp2
  refine wp_loop_rounds 5 ?_
  rw [rounds_succ]
  go_wp2
  go_quiet (fail)
  go_wp2
  · go_quiet (fail)
    go_wp2
    go_ret
    have da' := da.out; have db' := db.out
    exact ⟨retb (by rw [decide_eq_decide]; simp at *; omega), by (repeat' (first | (with_reducible (first | exact Below.refl _ _ | assumption | refine below_drewN ?_ _ | refine Below.drew ?_ | refine Below.alloc ?_ ?_ _ | refine Below.setCell ?_ ?_ _)) | go_size))⟩
  rw [rounds_succ]
  go_wp2
  go_quiet (fail)
  go_wp2
  · go_quiet (fail)
    go_wp2
    go_ret
    have da' := da.out; have db' := db.out
    exact ⟨retb (by rw [decide_eq_decide]; simp at *; omega), by (repeat' (first | (with_reducible (first | exact Below.refl _ _ | assumption | refine below_drewN ?_ _ | refine Below.drew ?_ | refine Below.alloc ?_ ?_ _ | refine Below.setCell ?_ ?_ _)) | go_size))⟩
  rw [rounds_succ]
  go_wp2
  go_quiet (fail)
  go_wp2
  · go_quiet (fail)
    go_wp2
    go_ret
    have da' := da.out; have db' := db.out
    exact ⟨retb (by rw [decide_eq_decide]; simp at *; omega), by (repeat' (first | (with_reducible (first | exact Below.refl _ _ | assumption | refine below_drewN ?_ _ | refine Below.drew ?_ | refine Below.alloc ?_ ?_ _ | refine Below.setCell ?_ ?_ _)) | go_size))⟩
  rw [rounds_succ]
  go_wp2
  go_quiet (fail)
  go_wp2
  · go_quiet (fail)
    go_wp2
    go_ret
    have da' := da.out; have db' := db.out
    exact ⟨retb (by rw [decide_eq_decide]; simp at *; omega), by (repeat' (first | (with_reducible (first | exact Below.refl _ _ | assumption | refine below_drewN ?_ _ | refine Below.drew ?_ | refine Below.alloc ?_ ?_ _ | refine Below.setCell ?_ ?_ _)) | go_size))⟩
  rw [rounds_succ]
  go_wp2
  go_ret
  have da' := da.out; have db' := db.out
  exact ⟨retb (by symm; rw [decide_eq_false_iff_not]; simp at *; omega), by (repeat' (first | (with_reducible (first | exact Below.refl _ _ | assumption | refine below_drewN ?_ _ | refine Below.drew ?_ | refine Below.alloc ?_ ?_ _ | refine Below.setCell ?_ ?_ _)) | go_size))⟩
end Go.Proofs.Ytaaoadbcgnedkaa
