/-
  Lines held against each other; the reference of a line; the closed example 'ten'. Conditions: fields in range.
-/
import Derived.Test.YtiaciibnakiikaaLineR
namespace Go.Proofs.Ytiaciibnakiikaa
open Go.RowKit Go.Sort
set_option linter.unusedVariables false
theorem weqIn (d : Nat) (a b : Int) (ha : In128 a) (hb : In128 b) (v : World) : (Op.equalIn (d + 2) 38 (wv a) (wv b)).run Try.prog v = .ok (decide (a = b)) v := by
  have hu : ∀ w, (isAgg 22).run Try.prog w = .ok false w := fun _ => by kernel_rfl
  have h2 : ∀ (w : World) (x y : Int), (Op.equalIn (d + 1) 22 (.int .u64 x) (.int .u64 y)).run Try.prog w = .ok (x == y) w := fun w x y => run_equalIn_int _ _ _ _ _ _ _ Try.underlying22
  have hs : ∀ w, (sizeOf 22).run Try.prog w = .ok 1 w := fun _ => by kernel_rfl
  rw [run_equalIn_struct _ (d + 1) 38 _ _ (by kernel_rfl) (by kernel_rfl)]
  have e : (hi a == hi b && lo a == lo b) = decide (a = b) := by
    rw [Bool.eq_iff_iff]
    simp only [Bool.and_eq_true, beq_iff_eq, decide_eq_true_eq]
    exact hilo_inj ha hb
  rw [← e]
  simp [Program.fieldsOf, Try.underlying38, go_sem, part, hu, hs, h2]
  cases h1 : (hi a == hi b) <;> cases h3 : (lo a == lo b) <;> simp_all
theorem leqIn (d : Nat) (X Y M X' Y' M' : Int) (hY : In128 Y) (hY' : In128 Y') (v : World) : (Op.equalIn (d + 3) 44 (lv X Y M) (lv X' Y' M')).run Try.prog v = .ok (decide (X = X' ∧ Y = Y' ∧ M = M')) v := by
  have hu : ∀ w, (isAgg 22).run Try.prog w = .ok false w := fun _ => by kernel_rfl
  have hu2 : ∀ w, (isAgg 38).run Try.prog w = .ok true w := fun _ => by kernel_rfl
  have h2 : ∀ (w : World) (x y : Int), (Op.equalIn (d + 2) 22 (.int .u64 x) (.int .u64 y)).run Try.prog w = .ok (x == y) w := fun w x y => run_equalIn_int _ _ _ _ _ _ _ Try.underlying22
  have h3 := fun w => weqIn d Y Y' hY hY' w
  have hs : ∀ w, (sizeOf 22).run Try.prog w = .ok 1 w := fun _ => by kernel_rfl
  have hs2 : ∀ w, (sizeOf 38).run Try.prog w = .ok 2 w := fun _ => by kernel_rfl
  rw [run_equalIn_struct _ (d + 2) 44 _ _ (by kernel_rfl) (by kernel_rfl)]
  simp [Program.fieldsOf, Try.underlying44, go_sem, part, hu, hu2, hs, hs2, h2, h3]
  by_cases e1 : X = X' <;> by_cases e2 : Y = Y' <;> by_cases e3 : M = M' <;> simp_all
theorem leq (X Y M X' Y' M' : Int) (c : Bool) (hY : In128 Y) (hY' : In128 Y') (hc : decide (X = X' ∧ Y = Y' ∧ M = M') = c) (v : World) : (binOp .eql 44 (lv X Y M) (lv X' Y' M')).run Try.prog v = .ok (.bool c) v := by
  rw [run_eql_struct, leqIn 9997 X Y M X' Y' M' hY hY', hc]; rfl
theorem lneq (X Y M X' Y' M' : Int) (c : Bool) (hY : In128 Y) (hY' : In128 Y') (hc : decide (X = X' ∧ Y = Y' ∧ M = M') = !c) (v : World) : (binOp .neq 44 (lv X Y M) (lv X' Y' M')).run Try.prog v = .ok (.bool c) v := by
  rw [run_neq_struct, leqIn 9997 X Y M X' Y' M' hY hY', hc]; simp [Result.andThen]
theorem neqIn (d : Nat) (a b : Int) (ha : In128 a) (hb : In128 b) (v : World) : (Op.equalIn (d + 2) 25 (nv a) (nv b)).run Try.prog v = .ok (decide (a = b)) v := by
  rw [run_equalIn_arr4 Try.prog v d 25 22 .u64 Try.underlying25 Try.underlying22 (fun _ => by kernel_rfl) (fun _ => by kernel_rfl)]
  congr 1
  rw [Bool.eq_iff_iff]
  simp only [Bool.and_eq_true, beq_iff_eq, decide_eq_true_eq]
  exact dgs_inj ha hb
theorem rleqIn (d : Nat) (X Y M X' Y' M' : Int) (hY : In128 Y) (hY' : In128 Y') (v : World) : (Op.equalIn (d + 3) 50 (rlv X Y M) (rlv X' Y' M')).run Try.prog v = .ok (decide (X = X' ∧ Y = Y' ∧ M = M')) v := by
  have hu : ∀ w, (isAgg 22).run Try.prog w = .ok false w := fun _ => by kernel_rfl
  have hu2 : ∀ w, (isAgg 25).run Try.prog w = .ok true w := fun _ => by kernel_rfl
  have h2 : ∀ (w : World) (x y : Int), (Op.equalIn (d + 2) 22 (.int .u64 x) (.int .u64 y)).run Try.prog w = .ok (x == y) w := fun w x y => run_equalIn_int _ _ _ _ _ _ _ Try.underlying22
  have h3 := fun w => neqIn d Y Y' hY hY' w
  have hs : ∀ w, (sizeOf 22).run Try.prog w = .ok 1 w := fun _ => by kernel_rfl
  have hs2 : ∀ w, (sizeOf 25).run Try.prog w = .ok 4 w := fun _ => by kernel_rfl
  rw [run_equalIn_struct _ (d + 2) 50 _ _ (by kernel_rfl) (by kernel_rfl)]
  simp [Program.fieldsOf, Try.underlying50, go_sem, part, hu, hu2, hs, hs2, h2, h3]
  by_cases e1 : X = X' <;> by_cases e2 : Y = Y' <;> by_cases e3 : M = M' <;> simp_all
theorem rleq (X Y M X' Y' M' : Int) (c : Bool) (hY : In128 Y) (hY' : In128 Y') (hc : decide (X = X' ∧ Y = Y' ∧ M = M') = c) (v : World) : (binOp .eql 50 (rlv X Y M) (rlv X' Y' M')).run Try.prog v = .ok (.bool c) v := by
  rw [run_eql_struct, rleqIn 9997 X Y M X' Y' M' hY hY', hc]; rfl
theorem lnum (n : Int) (w : World) (hn : In128 n) :
    Calls Try.prog 25 #[wv n] w fun e w' => e = .returned (nv n) ∧ Below w.heap.size w w' := by
  go_enter Try.func25, Try.ntmps25
  have r1 := hi_rng n; have r2 := lo_rng n
  go_wp2_with fail
  refine (rTwo n _ hn).mono ?_
  rintro e w1 ⟨rfl, hb1⟩
  have hz1 := hb1.size
  (try simp at hz1)
  obtain ⟨hc1, hf1⟩ := bcell hb1
  try have z1 := Nat.lt_of_succ_le hz1
  have k1 : Below w.heap.size w w1 := by refine Below.trans ?_ (hb1.mono ?_) <;> (repeat' (first | (with_reducible exact Below.refl _ _) | (with_reducible assumption) | (with_reducible refine below_drewN ?_ _) | (with_reducible refine Below.drew ?_) | (with_reducible refine Below.alloc ?_ ?_ _) | (with_reducible refine Below.setCell ?_ ?_ _) | go_size))
  have g1 := k1
  clear hb1 k1
  go_wp2
  refine bodyPost_ret (v := nv n) (by simp [results, Try.results25, go_sem, hc1]) rfl ⟨rfl, by (repeat' (first | (with_reducible exact Below.refl _ _) | (with_reducible assumption) | (with_reducible refine below_drewN ?_ _) | (with_reducible refine Below.drew ?_) | (with_reducible refine Below.alloc ?_ ?_ _) | (with_reducible refine Below.setCell ?_ ?_ _) | go_size))⟩
set_option maxHeartbeats 1000000 in
theorem lineref (X Y M : Int) (w : World) (hY : In128 Y) :
    Calls Try.prog 27 #[lv X Y M] w fun e w' => e = .returned (rlv X Y M) ∧ Below w.heap.size w w' := by
  go_enter Try.func27, Try.ntmps27
  go_wp2_with fail
  refine wp_forget (fun v => Below w.heap.size w v ∧ Blk v (w.heap.size) #[.int .u64 X, .int .u64 (hi (Y)), .int .u64 (lo (Y)), .int .u64 M] 44 ∧ Blk v (w.heap.size + 1) #[.int .u64 0, .int .u64 0, .int .u64 0, .int .u64 0, .int .u64 0, .int .u64 0] 50) ⟨by (repeat' (first | (with_reducible exact Below.refl _ _) | (with_reducible assumption) | (with_reducible refine below_drewN ?_ _) | (with_reducible refine Below.drew ?_) | (with_reducible refine Below.alloc ?_ ?_ _) | (with_reducible refine Below.setCell ?_ ?_ _) | go_size)), by (repeat' (first | (with_reducible assumption) | (with_reducible exact Blk.alloc_new _ _ _ (by first | rfl | (simp; done) | omega)) | (with_reducible refine Blk.drewN ?_ _) | (with_reducible refine Blk.drew ?_) | (with_reducible refine Blk.alloc_old ?_ _) | (with_reducible apply Blk.set_same) | (with_reducible refine Blk.set_other ?_ (by first | omega | (simp; done) | (simp; omega)) _) | (exact rfl))), by (repeat' (first | (with_reducible assumption) | (with_reducible exact Blk.alloc_new _ _ _ (by first | rfl | (simp; done) | omega)) | (with_reducible refine Blk.drewN ?_ _) | (with_reducible refine Blk.drew ?_) | (with_reducible refine Blk.alloc_old ?_ _) | (with_reducible apply Blk.set_same) | (with_reducible refine Blk.set_other ?_ (by first | omega | (simp; done) | (simp; omega)) _) | (exact rfl)))⟩ ?_
  rintro w0 ⟨g0, A0, R0⟩
  have hz0 := g0.size
  replace cA := A0.cell
  replace fA := A0.frozen
  replace zA := A0.size
  replace cR := R0.cell
  replace fR := R0.frozen
  replace zR := R0.size
  go_region_held3 (fun v => (∀ i, v.cell? ⟨w.heap.size, i, none⟩ = #[.int .u64 X, .int .u64 (hi (Y)), .int .u64 (lo (Y)), .int .u64 M][i]?) ∧ w.heap.size < v.heap.size ∧ Blk v (w.heap.size) #[.int .u64 X, .int .u64 (hi (Y)), .int .u64 (lo (Y)), .int .u64 M] 44 ∧ Below w.heap.size w v)
    (first
      | (refine ⟨?_, ?_, ?_, ?_⟩ <;> first | (with_reducible assumption) | ((repeat' (first | (with_reducible assumption) | (with_reducible exact Blk.alloc_new _ _ _ (by first | rfl | (simp; done) | omega)) | (with_reducible refine Blk.drewN ?_ _) | (with_reducible refine Blk.drew ?_) | (with_reducible refine Blk.alloc_old ?_ _) | (with_reducible apply Blk.set_same) | (with_reducible refine Blk.set_other ?_ (by first | omega | (simp; done) | (simp; omega)) _) | (exact rfl))); done) | ((repeat' (first | (with_reducible exact Below.refl _ _) | (with_reducible assumption) | (with_reducible refine below_drewN ?_ _) | (with_reducible refine Below.drew ?_) | (with_reducible refine Below.alloc ?_ ?_ _) | (with_reducible refine Below.setCell ?_ ?_ _) | go_size)); done) | omega | (go_simp; done) | (simp; done) | (exact Blk.cell (by (repeat' (first | (with_reducible assumption) | (with_reducible exact Blk.alloc_new _ _ _ (by first | rfl | (simp; done) | omega)) | (with_reducible refine Blk.drewN ?_ _) | (with_reducible refine Blk.drew ?_) | (with_reducible refine Blk.alloc_old ?_ _) | (with_reducible apply Blk.set_same) | (with_reducible refine Blk.set_other ?_ (by first | omega | (simp; done) | (simp; omega)) _) | (exact rfl)))))))
    (first
      | (go_at_call 25; (with_reducible refine (lnum Y _ hY).mono ?_); rintro e w' ⟨rfl, hb'⟩; have hbx : Below w.heap.size w w' := (by refine Below.trans ?_ (Below.mono hb' ?_) <;> (repeat' (first | (with_reducible exact Below.refl _ _) | (with_reducible assumption) | (with_reducible refine below_drewN ?_ _) | (with_reducible refine Below.drew ?_) | (with_reducible refine Below.alloc ?_ ?_ _) | (with_reducible refine Below.setCell ?_ ?_ _) | go_size))); have hbs := hb'.size; (try simp at hbs); have hkA : Blk w' (w.heap.size) #[.int .u64 X, .int .u64 (hi (Y)), .int .u64 (lo (Y)), .int .u64 M] 44 := Blk.below (by (repeat' (first | (with_reducible assumption) | (with_reducible exact Blk.alloc_new _ _ _ (by first | rfl | (simp; done) | omega)) | (with_reducible refine Blk.drewN ?_ _) | (with_reducible refine Blk.drew ?_) | (with_reducible refine Blk.alloc_old ?_ _) | (with_reducible apply Blk.set_same) | (with_reducible refine Blk.set_other ?_ (by first | omega | (simp; done) | (simp; omega)) _) | (exact rfl)))) hb' (by first | (simp; done) | omega | (simp; omega)); have hqA := hkA.cell; have hzA := hkA.size; have hkR : Blk w' (w.heap.size + 1) #[.int .u64 0, .int .u64 0, .int .u64 0, .int .u64 0, .int .u64 0, .int .u64 0] 50 := Blk.below (by (repeat' (first | (with_reducible assumption) | (with_reducible exact Blk.alloc_new _ _ _ (by first | rfl | (simp; done) | omega)) | (with_reducible refine Blk.drewN ?_ _) | (with_reducible refine Blk.drew ?_) | (with_reducible refine Blk.alloc_old ?_ _) | (with_reducible apply Blk.set_same) | (with_reducible refine Blk.set_other ?_ (by first | omega | (simp; done) | (simp; omega)) _) | (exact rfl)))) hb' (by first | (simp; done) | omega | (simp; omega)); have cR := hkR.cell; have fR := hkR.frozen; have zR := hkR.size; clear hb'))
  all_goals
    go_wp2
    refine bp_forget (fun v => Below w.heap.size w v ∧ Blk v (w.heap.size + 1) #[.int .u64 X, .int .u64 (dg0 (Y)), .int .u64 (dg1 (Y)), .int .u64 (dg2 (Y)), .int .u64 (dg3 (Y)), .int .u64 M] 50) ⟨by (repeat' (first | (with_reducible exact Below.refl _ _) | (with_reducible assumption) | (with_reducible refine below_drewN ?_ _) | (with_reducible refine Below.drew ?_) | (with_reducible refine Below.alloc ?_ ?_ _) | (with_reducible refine Below.setCell ?_ ?_ _) | go_size)), by (repeat' (first | (with_reducible assumption) | (with_reducible exact Blk.alloc_new _ _ _ (by first | rfl | (simp; done) | omega)) | (with_reducible refine Blk.drewN ?_ _) | (with_reducible refine Blk.drew ?_) | (with_reducible refine Blk.alloc_old ?_ _) | (with_reducible apply Blk.set_same) | (with_reducible refine Blk.set_other ?_ (by first | omega | (simp; done) | (simp; omega)) _) | (exact rfl)))⟩ ?_
    rintro v ⟨gv, Bv⟩
    have cv := Bv.cell
    refine bodyPost_ret (v := rlv X Y M) (by simp [results, Try.results27, go_sem, cv]) rfl ⟨rfl, gv⟩
theorem ten_true (w : World) :
    Calls Try.prog 33 #[] w fun e w' => e = .returned (.bool true) ∧ Below w.heap.size w w' := by
  have h5 := weq 5 5 true (by unfold In128; omega) (by unfold In128; omega) (by simp)
  have h9 := weq 9 9 true (by unfold In128; omega) (by unfold In128; omega) (by simp)
  have h4 := weq 4 4 true (by unfold In128; omega) (by unfold In128; omega) (by simp)
  have hf : ∀ v, (Instr.field 44 (lv 10 4 2) 1).run Try.prog v = .ok (wv 4) v := fun _ => by kernel_rfl
  go_enter Try.func33, Try.ntmps33
  go_wp2_with fail
  refine (wOf 5 _ (by omega) (by omega)).mono ?_
  rintro e w1 ⟨rfl, hb1⟩
  have g1 : Below w.heap.size w w1 := by refine Below.trans ?_ (hb1.mono ?_) <;> (repeat' (first | (with_reducible exact Below.refl _ _) | (with_reducible assumption) | (with_reducible refine below_drewN ?_ _) | (with_reducible refine Below.drew ?_) | (with_reducible refine Below.alloc ?_ ?_ _) | (with_reducible refine Below.setCell ?_ ?_ _) | go_size))
  have hz1 := hb1.size
  (try simp at hz1)
  clear hb1
  go_wp2_with fail
  refine wp_forget (fun v => Below w.heap.size w v ∧ Blk v (w1.heap.size) #[.int .u64 10, .int .u64 (hi (5)), .int .u64 (lo (5)), .int .u64 2] 44) ⟨by (repeat' (first | (with_reducible exact Below.refl _ _) | (with_reducible assumption) | (with_reducible refine below_drewN ?_ _) | (with_reducible refine Below.drew ?_) | (with_reducible refine Below.alloc ?_ ?_ _) | (with_reducible refine Below.setCell ?_ ?_ _) | go_size)), by (repeat' (first | (with_reducible assumption) | (with_reducible exact Blk.alloc_new _ _ _ (by first | rfl | (simp; done) | omega)) | (with_reducible refine Blk.drewN ?_ _) | (with_reducible refine Blk.drew ?_) | (with_reducible refine Blk.alloc_old ?_ _) | (with_reducible apply Blk.set_same) | (with_reducible refine Blk.set_other ?_ (by first | omega | (simp; done) | (simp; omega)) _) | (exact rfl)))⟩ ?_
  rintro v2 ⟨gv2, Av2⟩
  have qA2 := blk_calm Av2
  refine wp_region_quiet_below (by kernel_rfl) (by kernel_rfl) ?_
  repeat (go_big_quiet_step ((first
      | (go_at_call 26; (with_reducible exact Calls.regrown_of (lat 10 5 2 3 5 _ (by omega) (by unfold In128; omega) (by omega) (by omega) (by decide +kernel))))
      | (go_at_call 26; (with_reducible exact Calls.regrown_of (lat 10 5 2 12 9 _ (by omega) (by unfold In128; omega) (by omega) (by omega) (by decide +kernel))))
      | (go_at_call 54; (with_reducible exact Calls.regrown_of (wOf _ _ (by omega) (by omega))))
      | (go_at_call 29; (with_reducible exact Calls.regrown_of (lreach 10 5 2 8 12 _ (by omega) (by unfold In128; omega) (by omega) (by unfold In128; omega) (by decide +kernel))))
      | (go_at_call 31; (with_reducible exact Calls.regrown_of (low_any 10 5 2 10 4 2 10 4 2 _ (by omega) (by unfold In128; omega) (by omega) (by omega) (by unfold In128; omega) (by omega) (.inl ⟨by decide +kernel, rfl, rfl, rfl⟩)))))))
  refine wpQuiet_nil ?_
  intro _ hw'
  obtain ⟨pq, hw''⟩ := hw'
  subst hw''
  have hb2 := below_regrown v2 pq.d pq.os
  generalize Sort.grow (redrawn v2 pq.d) pq.os = w2 at *
  have A2 : Blk w2 (w1.heap.size) #[.int .u64 10, .int .u64 (hi (5)), .int .u64 (lo (5)), .int .u64 2] 44 := Blk.below Av2 hb2 Av2.size
  have g2 : Below w.heap.size w w2 := gv2.trans (hb2.mono gv2.size)
  have hz2 : w.heap.size ≤ w2.heap.size := g2.size
  clear hb2 gv2 Av2 qA2
  replace cA := A2.cell
  replace fA := A2.frozen
  replace zA := A2.size
  go_wp2
  go_ret
  exact ⟨rfl, by (repeat' (first | (with_reducible exact Below.refl _ _) | (with_reducible assumption) | (with_reducible refine below_drewN ?_ _) | (with_reducible refine Below.drew ?_) | (with_reducible refine Below.alloc ?_ ?_ _) | (with_reducible refine Below.setCell ?_ ?_ _) | go_size))⟩
end Go.Proofs.Ytiaciibnakiikaa
