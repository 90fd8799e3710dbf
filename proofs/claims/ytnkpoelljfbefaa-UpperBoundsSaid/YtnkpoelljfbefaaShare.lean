/-
  The walks of a class's virtual time, and of its reference. Conditions: fields in range.
-/
import Derived.Test.YtnkpoelljfbefaaRunT
import Derived.Test.YtnkpoelljfbefaaShareM
import Derived.Test.YtnkpoelljfbefaaBlk
namespace Go.Proofs.Ytnkpoelljfbefaa
open Go.RowKit Go.Sort
set_option linter.unusedVariables false
set_option linter.unusedSimpArgs false
theorem un_in {p : Int} (h : 0 ≤ p ∧ p ≤ 18446744073709551615) : In128 (p * 65536) := by unfold In128; omega
theorem runits (p q : Int) (w : World) (hp : 0 ≤ p ∧ p ≤ 18446744073709551615) (hq : p * 65536 = q) :
    Calls Try.prog 37 #[.int .u64 p] w fun e w' => e = .returned (nv q) ∧ Below w.heap.size w w' := by
  have Hq := hide hq; clear hq
  go_enter Try.func37, Try.ntmps37
  go_wp2_with fail
  refine (rMulC p 65536 q _ hp (by omega) Hq.out).mono ?_
  rintro e w1 ⟨rfl, hb1⟩
  have R1 : Blk w1 (w.heap.size) #[.int .u64 0, .int .u64 0, .int .u64 0, .int .u64 0] 36 := Blk.below (by (repeat' (first | (with_reducible (first | assumption | exact Blk.alloc_new _ _ _ (by first | rfl | (simp; done) | omega) | apply Blk.drewN | apply Blk.drew | apply Blk.alloc_old | apply Blk.set_same | apply Blk.set_other)) | (show (_ : Nat) ≠ _; first | omega | (simp; done) | (simp; omega)) | ((simp only [List.setIfInBounds_toArray, List.set_cons_succ, List.set_cons_zero]); (with_reducible exact rfl)) | (with_reducible exact rfl) | (show (_ : Array Value) = _; exact rfl)))) hb1 (by first | (simp; done) | omega | (simp; omega))
  have g1 : Below w.heap.size w w1 := by refine Below.trans ?_ (hb1.mono ?_) <;> (repeat' (first | (with_reducible (first | exact Below.refl _ _ | assumption | refine below_drewN ?_ _ | refine Below.drew ?_ | refine Below.alloc ?_ ?_ _ | refine Below.setCell ?_ ?_ _)) | go_size))
  have hz1 := hb1.size
  (try simp at hz1)
  clear hb1
  replace cR := R1.cell
  replace fR := R1.frozen
  replace zR := R1.size
  go_wp2
  refine bp_forget (fun v => Below w.heap.size w v ∧ Blk v (w.heap.size) #[.int .u64 (dg0 (q)), .int .u64 (dg1 (q)), .int .u64 (dg2 (q)), .int .u64 (dg3 (q))] 36) ⟨by (repeat' (first | (with_reducible (first | exact Below.refl _ _ | assumption | refine below_drewN ?_ _ | refine Below.drew ?_ | refine Below.alloc ?_ ?_ _ | refine Below.setCell ?_ ?_ _)) | go_size)), by (repeat' (first | (with_reducible (first | assumption | exact Blk.alloc_new _ _ _ (by first | rfl | (simp; done) | omega) | apply Blk.drewN | apply Blk.drew | apply Blk.alloc_old | apply Blk.set_same | apply Blk.set_other)) | (show (_ : Nat) ≠ _; first | omega | (simp; done) | (simp; omega)) | ((simp only [List.setIfInBounds_toArray, List.set_cons_succ, List.set_cons_zero]); (with_reducible exact rfl)) | (with_reducible exact rfl) | (show (_ : Array Value) = _; exact rfl)))⟩ ?_
  rintro v ⟨gv, Bv⟩
  have cv := Bv.cell
  refine bodyPost_ret (v := nv q) (by simp [results, Try.results37, go_sem, cv]) rfl ⟨rfl, gv⟩
set_option maxHeartbeats 1000000 in
theorem last2 (a b m : Int) (B : Nat) (t : TypeId) (w : World) (hB : Blk w B #[.int .u64 a, .int .u64 b] t) (ha : 0 ≤ a ∧ a ≤ 18446744073709551615) (hb : 0 ≤ b ∧ b ≤ 18446744073709551615) (hm : max a b = m) :
    Calls Try.prog 40 #[.slice (some ⟨B, 0, none⟩) 2 2] w fun e w' => e = .returned (.int .u64 m) ∧ w = w' := by
  have cB := hB.cell; have zB := hB.size
  have Hm := hide hm; clear hm
  go_enter Try.func40, Try.ntmps40
  go_wp2
  refine wp_loop_rounds 3 ?_
  rw [rounds_succ]
  go_wp2
  all_goals
    rw [rounds_succ]
    go_wp2
    all_goals
      rw [rounds_succ]
      go_wp2
      all_goals
        go_ret
        exact ⟨reti (by have := Hm.out; omega), rfl⟩
set_option maxHeartbeats 1000000 in
theorem last3 (a b c m : Int) (B : Nat) (t : TypeId) (w : World) (hB : Blk w B #[.int .u64 a, .int .u64 b, .int .u64 c] t) (ha : 0 ≤ a ∧ a ≤ 18446744073709551615) (hb : 0 ≤ b ∧ b ≤ 18446744073709551615) (hc : 0 ≤ c ∧ c ≤ 18446744073709551615) (hm : max (max a b) c = m) :
    Calls Try.prog 40 #[.slice (some ⟨B, 0, none⟩) 3 3] w fun e w' => e = .returned (.int .u64 m) ∧ w = w' := by
  have cB := hB.cell; have zB := hB.size
  have Hm := hide hm; clear hm
  go_enter Try.func40, Try.ntmps40
  go_wp2
  refine wp_loop_rounds 4 ?_
  rw [rounds_succ]
  go_wp2
  all_goals
    rw [rounds_succ]
    go_wp2
    all_goals
      rw [rounds_succ]
      go_wp2
      all_goals
        rw [rounds_succ]
        go_wp2
      all_goals
        go_ret
        exact ⟨reti (by have := Hm.out; omega), rfl⟩
set_option maxHeartbeats 1000000 in
theorem time_false (r : RN) (p q v T : Int) (w : World) (hb : r.b = false) (hr : r.ok) (hp : 0 ≤ p ∧ p ≤ 18446744073709551615) (hq : p * 65536 = q) (hv : r.reach q = v) (hT : max v r.t.X = T) :
    Calls Try.prog 15 #[runv r, .int .u64 p] w fun e w' => e = .returned (.int .u64 T) ∧ Below w.heap.size w w' := by
  have hq1 : In128 q := by rw [← hq]; exact un_in hp
  have hv1 := RN.reach_rng hr q
  rw [hv] at hv1
  have Hq := hide hq; have Hv := hide hv; have HT := hide hT; clear hq hv hT
  have htX := hr.2.1; have hfX := hr.1.1
  have cr : ∀ u, Calls Try.prog 39 #[.agg #[.int .u64 r.f.X, .int .u64 (hi (r.f.Y)), .int .u64 (lo (r.f.Y)), .int .u64 r.f.M, .int .u64 r.t.X, .int .u64 (hi (r.t.Y)), .int .u64 (lo (r.t.Y)), .int .u64 r.t.M, .bool false], wv q] u fun e w' => e = .returned (.int .u64 v) ∧ Below u.heap.size u w' := fun u => by
    have := runreach r q v u hr hq1 Hv.out; rw [runv, hb] at this; exact this
  have Hcr := hide cr; clear cr
  rw [runv, hb]
  clear hb
  go_enter Try.func15, Try.ntmps15
  go_wp2_with fail
  refine wp_forget (fun v => Below w.heap.size w v ∧ Blk v (w.heap.size) #[.int .u64 r.f.X, .int .u64 (hi (r.f.Y)), .int .u64 (lo (r.f.Y)), .int .u64 r.f.M, .int .u64 r.t.X, .int .u64 (hi (r.t.Y)), .int .u64 (lo (r.t.Y)), .int .u64 r.t.M, .bool false] 28) ⟨by (repeat' (first | (with_reducible (first | exact Below.refl _ _ | assumption | refine below_drewN ?_ _ | refine Below.drew ?_ | refine Below.alloc ?_ ?_ _ | refine Below.setCell ?_ ?_ _)) | go_size)), by (repeat' (first | (with_reducible (first | assumption | exact Blk.alloc_new _ _ _ (by first | rfl | (simp; done) | omega) | apply Blk.drewN | apply Blk.drew | apply Blk.alloc_old | apply Blk.set_same | apply Blk.set_other)) | (show (_ : Nat) ≠ _; first | omega | (simp; done) | (simp; omega)) | ((simp only [List.setIfInBounds_toArray, List.set_cons_succ, List.set_cons_zero]); (with_reducible exact rfl)) | (with_reducible exact rfl) | (show (_ : Array Value) = _; exact rfl)))⟩ ?_
  rintro v1 ⟨gv1, Av1⟩
  have qA1 := blk_calm Av1
  refine wp_region_quiet_below (by kernel_rfl) (by kernel_rfl) ?_
  repeat (go_big_quiet_step ((first
      | (go_at_call 34; (with_reducible exact Calls.regrown_of (wMulC p 65536 q _ hp (by omega) Hq.out)))
      | (go_at_call 39; (with_reducible exact Calls.regrown_of (Hcr.out _))))))
  refine wpQuiet_nil ?_
  intro _ hw'
  obtain ⟨pq, hw''⟩ := hw'
  subst hw''
  have hb1 := below_regrown v1 pq.d pq.os
  generalize Sort.grow (redrawn v1 pq.d) pq.os = w1 at *
  have A1 : Blk w1 (w.heap.size) #[.int .u64 r.f.X, .int .u64 (hi (r.f.Y)), .int .u64 (lo (r.f.Y)), .int .u64 r.f.M, .int .u64 r.t.X, .int .u64 (hi (r.t.Y)), .int .u64 (lo (r.t.Y)), .int .u64 r.t.M, .bool false] 28 := Blk.below Av1 hb1 Av1.size
  have g1 : Below w.heap.size w w1 := gv1.trans (hb1.mono gv1.size)
  have hz1 : w.heap.size ≤ w1.heap.size := g1.size
  clear hb1 gv1 Av1 qA1
  replace cA := A1.cell
  replace fA := A1.frozen
  replace zA := A1.size
  go_wp2_with fail
  refine (last2 v r.t.X T _ _ _ (by (repeat' (first | (with_reducible (first | assumption | exact Blk.alloc_new _ _ _ (by first | rfl | (simp; done) | omega) | apply Blk.drewN | apply Blk.drew | apply Blk.alloc_old | apply Blk.set_same | apply Blk.set_other)) | (show (_ : Nat) ≠ _; first | omega | (simp; done) | (simp; omega)) | ((simp only [List.setIfInBounds_toArray, List.set_cons_succ, List.set_cons_zero]); (with_reducible exact rfl)) | (with_reducible exact rfl) | (show (_ : Array Value) = _; exact rfl)))) (by omega) htX HT.out).mono ?_
  rintro e w9 ⟨rfl, rfl⟩
  go_wp2
  go_ret
  exact ⟨rfl, by (repeat' (first | (with_reducible (first | exact Below.refl _ _ | assumption | refine below_drewN ?_ _ | refine Below.drew ?_ | refine Below.alloc ?_ ?_ _ | refine Below.setCell ?_ ?_ _)) | go_size))⟩
set_option maxHeartbeats 1000000 in
theorem time_true (r : RN) (p q v T : Int) (w : World) (hb : r.b = true) (hr : r.ok) (hp : 0 ≤ p ∧ p ≤ 18446744073709551615) (hq : p * 65536 = q) (hv : r.reach q = v) (hT : max (max v r.t.X) r.f.X = T) :
    Calls Try.prog 15 #[runv r, .int .u64 p] w fun e w' => e = .returned (.int .u64 T) ∧ Below w.heap.size w w' := by
  have hq1 : In128 q := by rw [← hq]; exact un_in hp
  have hv1 := RN.reach_rng hr q
  rw [hv] at hv1
  have Hq := hide hq; have Hv := hide hv; have HT := hide hT; clear hq hv hT
  have htX := hr.2.1; have hfX := hr.1.1
  have cr : ∀ u, Calls Try.prog 39 #[.agg #[.int .u64 r.f.X, .int .u64 (hi (r.f.Y)), .int .u64 (lo (r.f.Y)), .int .u64 r.f.M, .int .u64 r.t.X, .int .u64 (hi (r.t.Y)), .int .u64 (lo (r.t.Y)), .int .u64 r.t.M, .bool true], wv q] u fun e w' => e = .returned (.int .u64 v) ∧ Below u.heap.size u w' := fun u => by
    have := runreach r q v u hr hq1 Hv.out; rw [runv, hb] at this; exact this
  have Hcr := hide cr; clear cr
  rw [runv, hb]
  clear hb
  go_enter Try.func15, Try.ntmps15
  go_wp2_with fail
  refine wp_forget (fun v => Below w.heap.size w v ∧ Blk v (w.heap.size) #[.int .u64 r.f.X, .int .u64 (hi (r.f.Y)), .int .u64 (lo (r.f.Y)), .int .u64 r.f.M, .int .u64 r.t.X, .int .u64 (hi (r.t.Y)), .int .u64 (lo (r.t.Y)), .int .u64 r.t.M, .bool true] 28) ⟨by (repeat' (first | (with_reducible (first | exact Below.refl _ _ | assumption | refine below_drewN ?_ _ | refine Below.drew ?_ | refine Below.alloc ?_ ?_ _ | refine Below.setCell ?_ ?_ _)) | go_size)), by (repeat' (first | (with_reducible (first | assumption | exact Blk.alloc_new _ _ _ (by first | rfl | (simp; done) | omega) | apply Blk.drewN | apply Blk.drew | apply Blk.alloc_old | apply Blk.set_same | apply Blk.set_other)) | (show (_ : Nat) ≠ _; first | omega | (simp; done) | (simp; omega)) | ((simp only [List.setIfInBounds_toArray, List.set_cons_succ, List.set_cons_zero]); (with_reducible exact rfl)) | (with_reducible exact rfl) | (show (_ : Array Value) = _; exact rfl)))⟩ ?_
  rintro v1 ⟨gv1, Av1⟩
  have qA1 := blk_calm Av1
  refine wp_region_quiet_below (by kernel_rfl) (by kernel_rfl) ?_
  repeat (go_big_quiet_step ((first
      | (go_at_call 34; (with_reducible exact Calls.regrown_of (wMulC p 65536 q _ hp (by omega) Hq.out)))
      | (go_at_call 39; (with_reducible exact Calls.regrown_of (Hcr.out _))))))
  refine wpQuiet_nil ?_
  intro _ hw'
  obtain ⟨pq, hw''⟩ := hw'
  subst hw''
  have hb1 := below_regrown v1 pq.d pq.os
  generalize Sort.grow (redrawn v1 pq.d) pq.os = w1 at *
  have A1 : Blk w1 (w.heap.size) #[.int .u64 r.f.X, .int .u64 (hi (r.f.Y)), .int .u64 (lo (r.f.Y)), .int .u64 r.f.M, .int .u64 r.t.X, .int .u64 (hi (r.t.Y)), .int .u64 (lo (r.t.Y)), .int .u64 r.t.M, .bool true] 28 := Blk.below Av1 hb1 Av1.size
  have g1 : Below w.heap.size w w1 := gv1.trans (hb1.mono gv1.size)
  have hz1 : w.heap.size ≤ w1.heap.size := g1.size
  clear hb1 gv1 Av1 qA1
  replace cA := A1.cell
  replace fA := A1.frozen
  replace zA := A1.size
  go_wp2_with fail
  refine (last3 v r.t.X r.f.X T _ _ _ (by (repeat' (first | (with_reducible (first | assumption | exact Blk.alloc_new _ _ _ (by first | rfl | (simp; done) | omega) | apply Blk.drewN | apply Blk.drew | apply Blk.alloc_old | apply Blk.set_same | apply Blk.set_other)) | (show (_ : Nat) ≠ _; first | omega | (simp; done) | (simp; omega)) | ((simp only [List.setIfInBounds_toArray, List.set_cons_succ, List.set_cons_zero]); (with_reducible exact rfl)) | (with_reducible exact rfl) | (show (_ : Array Value) = _; exact rfl)))) (by omega) htX hfX HT.out).mono ?_
  rintro e w9 ⟨rfl, rfl⟩
  go_wp2
  go_ret
  exact ⟨rfl, by (repeat' (first | (with_reducible (first | exact Below.refl _ _ | assumption | refine below_drewN ?_ _ | refine Below.drew ?_ | refine Below.alloc ?_ ?_ _ | refine Below.setCell ?_ ?_ _)) | go_size))⟩
theorem share_time (r : RN) (p T : Int) (w : World) (hr : r.ok) (hp : 0 ≤ p ∧ p ≤ 18446744073709551615) (hT : r.time p = T) :
    Calls Try.prog 15 #[runv r, .int .u64 p] w fun e w' => e = .returned (.int .u64 T) ∧ Below w.heap.size w w' := by
  unfold RN.time at hT
  rcases hb : r.b with _ | _
  · rw [hb] at hT; simp only [Bool.false_eq_true, if_false] at hT
    exact time_false r p _ _ T w hb hr hp rfl rfl hT
  · rw [hb] at hT; simp only [if_true] at hT
    exact time_true r p _ _ T w hb hr hp rfl rfl hT
set_option maxHeartbeats 1000000 in
theorem rtime_false (r : RN) (p q v T : Int) (w : World) (hb : r.b = false) (hr : r.ok) (hp : 0 ≤ p ∧ p ≤ 18446744073709551615) (hq : p * 65536 = q) (hv : r.reach q = v) (hT : max v r.t.X = T) :
    Calls Try.prog 16 #[rrunv r, .int .u64 p] w fun e w' => e = .returned (.int .u64 T) ∧ Below w.heap.size w w' := by
  have hq1 : In128 q := by rw [← hq]; exact un_in hp
  have hv1 := RN.reach_rng hr q
  rw [hv] at hv1
  have Hq := hide hq; have Hv := hide hv; have HT := hide hT; clear hq hv hT
  have htX := hr.2.1; have hfX := hr.1.1
  have cr : ∀ u, Calls Try.prog 41 #[.agg #[.int .u64 r.f.X, .int .u64 (dg0 (r.f.Y)), .int .u64 (dg1 (r.f.Y)), .int .u64 (dg2 (r.f.Y)), .int .u64 (dg3 (r.f.Y)), .int .u64 r.f.M, .int .u64 r.t.X, .int .u64 (dg0 (r.t.Y)), .int .u64 (dg1 (r.t.Y)), .int .u64 (dg2 (r.t.Y)), .int .u64 (dg3 (r.t.Y)), .int .u64 r.t.M, .bool false], nv q] u fun e w' => e = .returned (.int .u64 v) ∧ Below u.heap.size u w' := fun u => by
    have := rrunreach r q v u hr hq1 Hv.out; rw [rrunv, hb] at this; exact this
  have Hcr := hide cr; clear cr
  rw [rrunv, hb]
  clear hb
  go_enter Try.func16, Try.ntmps16
  go_wp2_with fail
  refine wp_forget (fun v => Below w.heap.size w v ∧ Blk v (w.heap.size) #[.int .u64 r.f.X, .int .u64 (dg0 (r.f.Y)), .int .u64 (dg1 (r.f.Y)), .int .u64 (dg2 (r.f.Y)), .int .u64 (dg3 (r.f.Y)), .int .u64 r.f.M, .int .u64 r.t.X, .int .u64 (dg0 (r.t.Y)), .int .u64 (dg1 (r.t.Y)), .int .u64 (dg2 (r.t.Y)), .int .u64 (dg3 (r.t.Y)), .int .u64 r.t.M, .bool false] 40) ⟨by (repeat' (first | (with_reducible (first | exact Below.refl _ _ | assumption | refine below_drewN ?_ _ | refine Below.drew ?_ | refine Below.alloc ?_ ?_ _ | refine Below.setCell ?_ ?_ _)) | go_size)), by (repeat' (first | (with_reducible (first | assumption | exact Blk.alloc_new _ _ _ (by first | rfl | (simp; done) | omega) | apply Blk.drewN | apply Blk.drew | apply Blk.alloc_old | apply Blk.set_same | apply Blk.set_other)) | (show (_ : Nat) ≠ _; first | omega | (simp; done) | (simp; omega)) | ((simp only [List.setIfInBounds_toArray, List.set_cons_succ, List.set_cons_zero]); (with_reducible exact rfl)) | (with_reducible exact rfl) | (show (_ : Array Value) = _; exact rfl)))⟩ ?_
  rintro v1 ⟨gv1, Av1⟩
  have qA1 := blk_calm Av1
  refine wp_region_quiet_below (by kernel_rfl) (by kernel_rfl) ?_
  repeat (go_big_quiet_step ((first
      | (go_at_call 37; (with_reducible exact Calls.regrown_of (runits p q _ hp Hq.out)))
      | (go_at_call 41; (with_reducible exact Calls.regrown_of (Hcr.out _))))))
  refine wpQuiet_nil ?_
  intro _ hw'
  obtain ⟨pq, hw''⟩ := hw'
  subst hw''
  have hb1 := below_regrown v1 pq.d pq.os
  generalize Sort.grow (redrawn v1 pq.d) pq.os = w1 at *
  have A1 : Blk w1 (w.heap.size) #[.int .u64 r.f.X, .int .u64 (dg0 (r.f.Y)), .int .u64 (dg1 (r.f.Y)), .int .u64 (dg2 (r.f.Y)), .int .u64 (dg3 (r.f.Y)), .int .u64 r.f.M, .int .u64 r.t.X, .int .u64 (dg0 (r.t.Y)), .int .u64 (dg1 (r.t.Y)), .int .u64 (dg2 (r.t.Y)), .int .u64 (dg3 (r.t.Y)), .int .u64 r.t.M, .bool false] 40 := Blk.below Av1 hb1 Av1.size
  have g1 : Below w.heap.size w w1 := gv1.trans (hb1.mono gv1.size)
  have hz1 : w.heap.size ≤ w1.heap.size := g1.size
  clear hb1 gv1 Av1 qA1
  replace cA := A1.cell
  replace fA := A1.frozen
  replace zA := A1.size
  by_cases c1 : v < r.t.X
  · have d1 : decide (v < r.t.X) = true := decide_eq_true c1
    skip
    all_goals
      skip
      go_wp2
      all_goals first
        | (exfalso; omega)
        | (go_ret; exact ⟨reti (by have := HT.out; omega), by (repeat' (first | (with_reducible (first | exact Below.refl _ _ | assumption | refine below_drewN ?_ _ | refine Below.drew ?_ | refine Below.alloc ?_ ?_ _ | refine Below.setCell ?_ ?_ _)) | go_size))⟩)
  · have d1 : decide (v < r.t.X) = false := decide_eq_false c1
    go_wp2
    all_goals first
      | (exfalso; omega)
      | (go_ret; exact ⟨reti (by have := HT.out; omega), by (repeat' (first | (with_reducible (first | exact Below.refl _ _ | assumption | refine below_drewN ?_ _ | refine Below.drew ?_ | refine Below.alloc ?_ ?_ _ | refine Below.setCell ?_ ?_ _)) | go_size))⟩)
set_option maxHeartbeats 1000000 in
theorem rtime_true (r : RN) (p q v T : Int) (w : World) (hb : r.b = true) (hr : r.ok) (hp : 0 ≤ p ∧ p ≤ 18446744073709551615) (hq : p * 65536 = q) (hv : r.reach q = v) (hT : max (max v r.t.X) r.f.X = T) :
    Calls Try.prog 16 #[rrunv r, .int .u64 p] w fun e w' => e = .returned (.int .u64 T) ∧ Below w.heap.size w w' := by
  have hq1 : In128 q := by rw [← hq]; exact un_in hp
  have hv1 := RN.reach_rng hr q
  rw [hv] at hv1
  have Hq := hide hq; have Hv := hide hv; have HT := hide hT; clear hq hv hT
  have htX := hr.2.1; have hfX := hr.1.1
  have cr : ∀ u, Calls Try.prog 41 #[.agg #[.int .u64 r.f.X, .int .u64 (dg0 (r.f.Y)), .int .u64 (dg1 (r.f.Y)), .int .u64 (dg2 (r.f.Y)), .int .u64 (dg3 (r.f.Y)), .int .u64 r.f.M, .int .u64 r.t.X, .int .u64 (dg0 (r.t.Y)), .int .u64 (dg1 (r.t.Y)), .int .u64 (dg2 (r.t.Y)), .int .u64 (dg3 (r.t.Y)), .int .u64 r.t.M, .bool true], nv q] u fun e w' => e = .returned (.int .u64 v) ∧ Below u.heap.size u w' := fun u => by
    have := rrunreach r q v u hr hq1 Hv.out; rw [rrunv, hb] at this; exact this
  have Hcr := hide cr; clear cr
  rw [rrunv, hb]
  clear hb
  go_enter Try.func16, Try.ntmps16
  go_wp2_with fail
  refine wp_forget (fun v => Below w.heap.size w v ∧ Blk v (w.heap.size) #[.int .u64 r.f.X, .int .u64 (dg0 (r.f.Y)), .int .u64 (dg1 (r.f.Y)), .int .u64 (dg2 (r.f.Y)), .int .u64 (dg3 (r.f.Y)), .int .u64 r.f.M, .int .u64 r.t.X, .int .u64 (dg0 (r.t.Y)), .int .u64 (dg1 (r.t.Y)), .int .u64 (dg2 (r.t.Y)), .int .u64 (dg3 (r.t.Y)), .int .u64 r.t.M, .bool true] 40) ⟨by (repeat' (first | (with_reducible (first | exact Below.refl _ _ | assumption | refine below_drewN ?_ _ | refine Below.drew ?_ | refine Below.alloc ?_ ?_ _ | refine Below.setCell ?_ ?_ _)) | go_size)), by (repeat' (first | (with_reducible (first | assumption | exact Blk.alloc_new _ _ _ (by first | rfl | (simp; done) | omega) | apply Blk.drewN | apply Blk.drew | apply Blk.alloc_old | apply Blk.set_same | apply Blk.set_other)) | (show (_ : Nat) ≠ _; first | omega | (simp; done) | (simp; omega)) | ((simp only [List.setIfInBounds_toArray, List.set_cons_succ, List.set_cons_zero]); (with_reducible exact rfl)) | (with_reducible exact rfl) | (show (_ : Array Value) = _; exact rfl)))⟩ ?_
  rintro v1 ⟨gv1, Av1⟩
  have qA1 := blk_calm Av1
  refine wp_region_quiet_below (by kernel_rfl) (by kernel_rfl) ?_
  repeat (go_big_quiet_step ((first
      | (go_at_call 37; (with_reducible exact Calls.regrown_of (runits p q _ hp Hq.out)))
      | (go_at_call 41; (with_reducible exact Calls.regrown_of (Hcr.out _))))))
  refine wpQuiet_nil ?_
  intro _ hw'
  obtain ⟨pq, hw''⟩ := hw'
  subst hw''
  have hb1 := below_regrown v1 pq.d pq.os
  generalize Sort.grow (redrawn v1 pq.d) pq.os = w1 at *
  have A1 : Blk w1 (w.heap.size) #[.int .u64 r.f.X, .int .u64 (dg0 (r.f.Y)), .int .u64 (dg1 (r.f.Y)), .int .u64 (dg2 (r.f.Y)), .int .u64 (dg3 (r.f.Y)), .int .u64 r.f.M, .int .u64 r.t.X, .int .u64 (dg0 (r.t.Y)), .int .u64 (dg1 (r.t.Y)), .int .u64 (dg2 (r.t.Y)), .int .u64 (dg3 (r.t.Y)), .int .u64 r.t.M, .bool true] 40 := Blk.below Av1 hb1 Av1.size
  have g1 : Below w.heap.size w w1 := gv1.trans (hb1.mono gv1.size)
  have hz1 : w.heap.size ≤ w1.heap.size := g1.size
  clear hb1 gv1 Av1 qA1
  replace cA := A1.cell
  replace fA := A1.frozen
  replace zA := A1.size
  by_cases c1 : v < r.t.X
  · have d1 : decide (v < r.t.X) = true := decide_eq_true c1
    by_cases c2 : r.t.X < r.f.X
    all_goals
      have d2 : decide (r.t.X < r.f.X) = decide (r.t.X < r.f.X) := rfl
      go_wp2
      all_goals first
        | (exfalso; omega)
        | (go_ret; exact ⟨reti (by have := HT.out; omega), by (repeat' (first | (with_reducible (first | exact Below.refl _ _ | assumption | refine below_drewN ?_ _ | refine Below.drew ?_ | refine Below.alloc ?_ ?_ _ | refine Below.setCell ?_ ?_ _)) | go_size))⟩)
  · have d1 : decide (v < r.t.X) = false := decide_eq_false c1
    go_wp2
    all_goals first
      | (exfalso; omega)
      | (go_ret; exact ⟨reti (by have := HT.out; omega), by (repeat' (first | (with_reducible (first | exact Below.refl _ _ | assumption | refine below_drewN ?_ _ | refine Below.drew ?_ | refine Below.alloc ?_ ?_ _ | refine Below.setCell ?_ ?_ _)) | go_size))⟩)
theorem ref_time (r : RN) (p T : Int) (w : World) (hr : r.ok) (hp : 0 ≤ p ∧ p ≤ 18446744073709551615) (hT : r.time p = T) :
    Calls Try.prog 16 #[rrunv r, .int .u64 p] w fun e w' => e = .returned (.int .u64 T) ∧ Below w.heap.size w w' := by
  unfold RN.time at hT
  rcases hb : r.b with _ | _
  · rw [hb] at hT; simp only [Bool.false_eq_true, if_false] at hT
    exact rtime_false r p _ _ T w hb hr hp rfl rfl hT
  · rw [hb] at hT; simp only [if_true] at hT
    exact rtime_true r p _ _ T w hb hr hp rfl rfl hT
end Go.Proofs.Ytnkpoelljfbefaa
