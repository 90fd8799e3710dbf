/-
  Lines held against each other; the reference of a line; the closed example 'ten'. Conditions: fields in range.
-/
import Derived.Test.YtaaoadbcgnedkaaLineR
namespace Go.Proofs.Ytaaoadbcgnedkaa
open Go.RowKit Go.Sort
set_option linter.unusedVariables false
set_option linter.unusedSimpArgs false
theorem weqIn (d : Nat) (a b : Int) (ha : In128 a) (hb : In128 b) (v : World) : (Op.equalIn (d + 2) 26 (wv a) (wv b)).run Try.prog v = .ok (decide (a = b)) v := by
  have hu : ∀ w, (isAgg 22).run Try.prog w = .ok false w := fun _ => by kernel_rfl
  have h2 : ∀ (w : World) (x y : Int), (Op.equalIn (d + 1) 22 (.int .u64 x) (.int .u64 y)).run Try.prog w = .ok (x == y) w := fun w x y => run_equalIn_int _ _ _ _ _ _ _ Try.underlying22
  have hs : ∀ w, (sizeOf 22).run Try.prog w = .ok 1 w := fun _ => by kernel_rfl
  rw [run_equalIn_struct _ (d + 1) 26 _ _ (by kernel_rfl) (by kernel_rfl)]
  have e : (hi a == hi b && lo a == lo b) = decide (a = b) := by
    rw [Bool.eq_iff_iff]
    simp only [Bool.and_eq_true, beq_iff_eq, decide_eq_true_eq]
    exact hilo_inj ha hb
  rw [← e]
  simp [Program.fieldsOf, Try.underlying26, go_sem, part, hu, hs, h2]
  cases h1 : (hi a == hi b) <;> cases h3 : (lo a == lo b) <;> simp_all
theorem leqIn (d : Nat) (X Y M X' Y' M' : Int) (hY : In128 Y) (hY' : In128 Y') (v : World) : (Op.equalIn (d + 3) 38 (lv X Y M) (lv X' Y' M')).run Try.prog v = .ok (decide (X = X' ∧ Y = Y' ∧ M = M')) v := by
  have hu : ∀ w, (isAgg 22).run Try.prog w = .ok false w := fun _ => by kernel_rfl
  have hu2 : ∀ w, (isAgg 26).run Try.prog w = .ok true w := fun _ => by kernel_rfl
  have h2 : ∀ (w : World) (x y : Int), (Op.equalIn (d + 2) 22 (.int .u64 x) (.int .u64 y)).run Try.prog w = .ok (x == y) w := fun w x y => run_equalIn_int _ _ _ _ _ _ _ Try.underlying22
  have h3 := fun w => weqIn d Y Y' hY hY' w
  have hs : ∀ w, (sizeOf 22).run Try.prog w = .ok 1 w := fun _ => by kernel_rfl
  have hs2 : ∀ w, (sizeOf 26).run Try.prog w = .ok 2 w := fun _ => by kernel_rfl
  rw [run_equalIn_struct _ (d + 2) 38 _ _ (by kernel_rfl) (by kernel_rfl)]
  simp [Program.fieldsOf, Try.underlying38, go_sem, part, hu, hu2, hs, hs2, h2, h3]
  by_cases e1 : X = X' <;> by_cases e2 : Y = Y' <;> by_cases e3 : M = M' <;> simp_all
theorem leq (X Y M X' Y' M' : Int) (c : Bool) (hY : In128 Y) (hY' : In128 Y') (hc : decide (X = X' ∧ Y = Y' ∧ M = M') = c) (v : World) : (binOp .eql 38 (lv X Y M) (lv X' Y' M')).run Try.prog v = .ok (.bool c) v := by
  rw [run_eql_struct, leqIn 9997 X Y M X' Y' M' hY hY', hc]; rfl
theorem lneq (X Y M X' Y' M' : Int) (c : Bool) (hY : In128 Y) (hY' : In128 Y') (hc : decide (X = X' ∧ Y = Y' ∧ M = M') = !c) (v : World) : (binOp .neq 38 (lv X Y M) (lv X' Y' M')).run Try.prog v = .ok (.bool c) v := by
  rw [run_neq_struct, leqIn 9997 X Y M X' Y' M' hY hY', hc]; simp [Result.andThen]
theorem neqIn (d : Nat) (a b : Int) (ha : In128 a) (hb : In128 b) (v : World) : (Op.equalIn (d + 2) 31 (nv a) (nv b)).run Try.prog v = .ok (decide (a = b)) v := by
  rw [run_equalIn_arr4 Try.prog v d 31 22 .u64 Try.underlying31 Try.underlying22 (fun _ => by kernel_rfl) (fun _ => by kernel_rfl)]
  congr 1
  rw [Bool.eq_iff_iff]
  simp only [Bool.and_eq_true, beq_iff_eq, decide_eq_true_eq]
  exact dgs_inj ha hb
theorem rleqIn (d : Nat) (X Y M X' Y' M' : Int) (hY : In128 Y) (hY' : In128 Y') (v : World) : (Op.equalIn (d + 3) 33 (rlv X Y M) (rlv X' Y' M')).run Try.prog v = .ok (decide (X = X' ∧ Y = Y' ∧ M = M')) v := by
  have hu : ∀ w, (isAgg 22).run Try.prog w = .ok false w := fun _ => by kernel_rfl
  have hu2 : ∀ w, (isAgg 31).run Try.prog w = .ok true w := fun _ => by kernel_rfl
  have h2 : ∀ (w : World) (x y : Int), (Op.equalIn (d + 2) 22 (.int .u64 x) (.int .u64 y)).run Try.prog w = .ok (x == y) w := fun w x y => run_equalIn_int _ _ _ _ _ _ _ Try.underlying22
  have h3 := fun w => neqIn d Y Y' hY hY' w
  have hs : ∀ w, (sizeOf 22).run Try.prog w = .ok 1 w := fun _ => by kernel_rfl
  have hs2 : ∀ w, (sizeOf 31).run Try.prog w = .ok 4 w := fun _ => by kernel_rfl
  rw [run_equalIn_struct _ (d + 2) 33 _ _ (by kernel_rfl) (by kernel_rfl)]
  simp [Program.fieldsOf, Try.underlying33, go_sem, part, hu, hu2, hs, hs2, h2, h3]
  by_cases e1 : X = X' <;> by_cases e2 : Y = Y' <;> by_cases e3 : M = M' <;> simp_all
theorem rleq (X Y M X' Y' M' : Int) (c : Bool) (hY : In128 Y) (hY' : In128 Y') (hc : decide (X = X' ∧ Y = Y' ∧ M = M') = c) (v : World) : (binOp .eql 33 (rlv X Y M) (rlv X' Y' M')).run Try.prog v = .ok (.bool c) v := by
  rw [run_eql_struct, rleqIn 9997 X Y M X' Y' M' hY hY', hc]; rfl
end Go.Proofs.Ytaaoadbcgnedkaa
