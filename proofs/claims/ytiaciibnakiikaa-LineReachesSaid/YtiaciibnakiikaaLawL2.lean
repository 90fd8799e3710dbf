/-
  The statement LineReaches: ahead of Reach a line is less than an amount, at Reach it is not. Conditions: none.
-/
import Derived.Test.YtiaciibnakiikaaLineM
import Derived.Test.YtiaciibnakiikaaLawL1
namespace Go.Proofs.Ytiaciibnakiikaa
open Go.ChangeShapes Go.WideShapes Go.ChangeAt Go.RowKit
open Go.Sort
set_option linter.unusedVariables false
theorem LR_a (X Y M W : Int) (w : World) (e1 : decide (68719476736 ≤ hi Y) = true) :
    Calls Try.prog 7 #[lv X Y M, wv W] w fun e w' => e = .returned (.bool true) ∧ Below w.heap.size w w' := by
  go_enter Try.func7, Try.ntmps7
  go_wp2_with fail
  refine (ten_true _).mono ?_
  rintro e w1 ⟨rfl, hb1⟩
  have g1 : Below w.heap.size w w1 := by refine Below.trans ?_ (hb1.mono ?_) <;> (repeat' (first | (with_reducible exact Below.refl _ _) | (with_reducible assumption) | (with_reducible refine below_drewN ?_ _) | (with_reducible refine Below.drew ?_) | (with_reducible refine Below.alloc ?_ ?_ _) | (with_reducible refine Below.setCell ?_ ?_ _) | go_size))
  have hz1 := hb1.size
  (try simp at hz1)
  clear hb1
  go_wp2
  go_ret
  exact ⟨rfl, by (repeat' (first | (with_reducible exact Below.refl _ _) | (with_reducible assumption) | (with_reducible refine below_drewN ?_ _) | (with_reducible refine Below.drew ?_) | (with_reducible refine Below.alloc ?_ ?_ _) | (with_reducible refine Below.setCell ?_ ?_ _) | go_size))⟩
theorem LR_b (X Y M W : Int) (w : World) (e1 : decide (68719476736 ≤ hi Y) = false) (e2 : decide (68719476736 ≤ hi W) = true) :
    Calls Try.prog 7 #[lv X Y M, wv W] w fun e w' => e = .returned (.bool true) ∧ Below w.heap.size w w' := by
  go_enter Try.func7, Try.ntmps7
  go_wp2_with fail
  refine (ten_true _).mono ?_
  rintro e w1 ⟨rfl, hb1⟩
  have g1 : Below w.heap.size w w1 := by refine Below.trans ?_ (hb1.mono ?_) <;> (repeat' (first | (with_reducible exact Below.refl _ _) | (with_reducible assumption) | (with_reducible refine below_drewN ?_ _) | (with_reducible refine Below.drew ?_) | (with_reducible refine Below.alloc ?_ ?_ _) | (with_reducible refine Below.setCell ?_ ?_ _) | go_size))
  have hz1 := hb1.size
  (try simp at hz1)
  clear hb1
  go_wp2
  go_ret
  exact ⟨rfl, by (repeat' (first | (with_reducible exact Below.refl _ _) | (with_reducible assumption) | (with_reducible refine below_drewN ?_ _) | (with_reducible refine Below.drew ?_) | (with_reducible refine Below.alloc ?_ ?_ _) | (with_reducible refine Below.setCell ?_ ?_ _) | go_size))⟩
theorem LR_c (X Y M W : Int) (w : World) (e1 : decide (68719476736 ≤ hi Y) = false) (e2 : decide (68719476736 ≤ hi W) = false) (e3 : decide (68719476736 ≤ M) = true) :
    Calls Try.prog 7 #[lv X Y M, wv W] w fun e w' => e = .returned (.bool true) ∧ Below w.heap.size w w' := by
  go_enter Try.func7, Try.ntmps7
  go_wp2_with fail
  refine (ten_true _).mono ?_
  rintro e w1 ⟨rfl, hb1⟩
  have g1 : Below w.heap.size w w1 := by refine Below.trans ?_ (hb1.mono ?_) <;> (repeat' (first | (with_reducible exact Below.refl _ _) | (with_reducible assumption) | (with_reducible refine below_drewN ?_ _) | (with_reducible refine Below.drew ?_) | (with_reducible refine Below.alloc ?_ ?_ _) | (with_reducible refine Below.setCell ?_ ?_ _) | go_size))
  have hz1 := hb1.size
  (try simp at hz1)
  clear hb1
  go_wp2
  go_ret
  exact ⟨rfl, by (repeat' (first | (with_reducible exact Below.refl _ _) | (with_reducible assumption) | (with_reducible refine below_drewN ?_ _) | (with_reducible refine Below.drew ?_) | (with_reducible refine Below.alloc ?_ ?_ _) | (with_reducible refine Below.setCell ?_ ?_ _) | go_size))⟩
set_option maxHeartbeats 1000000 in
theorem LR_d (X Y M W t s c s2 c2 : Int) (w : World) (e1 : decide (68719476736 ≤ hi Y) = false) (e2 : decide (68719476736 ≤ hi W) = false) (e3 : decide (68719476736 ≤ M) = false) (hX : 0 ≤ X ∧ X ≤ 18446744073709551615) (hY : In128 Y) (hM : 0 ≤ M ∧ M ≤ 18446744073709551615) (hW : In128 W) (ht : lr X Y M W = t) (ht0 : 0 ≤ t ∧ t ≤ 9223372036854775808) (hn : (t == 9223372036854775808) = true) (hs : la X Y M 4611686018427387904 = s) (s1 : In128 s) (hc : cmp s W = c) (hcc : decide (c < 0) = true) :
    Calls Try.prog 7 #[lv X Y M, wv W] w fun e w' => e = .returned (.bool true) ∧ Below w.heap.size w w' := by
  have Hht := hide ht; have Hhs := hide hs; have Hhc := hide hc; clear ht hs hc
  go_enter Try.func7, Try.ntmps7
  go_wp2_with fail
  refine (lreach X Y M W t _ hX hY hM hW Hht.out).mono ?_
  rintro e w1 ⟨rfl, hb1⟩
  have A1 : Blk w1 (w.heap.size) #[.int .u64 X, .int .u64 (hi (Y)), .int .u64 (lo (Y)), .int .u64 M] 44 := Blk.below (by (repeat' (first | (with_reducible assumption) | (with_reducible exact Blk.alloc_new _ _ _ (by first | rfl | (simp; done) | omega)) | (with_reducible refine Blk.drewN ?_ _) | (with_reducible refine Blk.drew ?_) | (with_reducible refine Blk.alloc_old ?_ _) | (with_reducible apply Blk.set_same) | (with_reducible refine Blk.set_other ?_ (by first | omega | (simp; done) | (simp; omega)) _) | (exact rfl)))) hb1 (by first | (simp; done) | omega | (simp; omega))
  have W1 : Blk w1 (w.heap.size + 1) #[.int .u64 (hi (W)), .int .u64 (lo (W))] 38 := Blk.below (by (repeat' (first | (with_reducible assumption) | (with_reducible exact Blk.alloc_new _ _ _ (by first | rfl | (simp; done) | omega)) | (with_reducible refine Blk.drewN ?_ _) | (with_reducible refine Blk.drew ?_) | (with_reducible refine Blk.alloc_old ?_ _) | (with_reducible apply Blk.set_same) | (with_reducible refine Blk.set_other ?_ (by first | omega | (simp; done) | (simp; omega)) _) | (exact rfl)))) hb1 (by first | (simp; done) | omega | (simp; omega))
  have g1 : Below w.heap.size w w1 := by refine Below.trans ?_ (hb1.mono ?_) <;> (repeat' (first | (with_reducible exact Below.refl _ _) | (with_reducible assumption) | (with_reducible refine below_drewN ?_ _) | (with_reducible refine Below.drew ?_) | (with_reducible refine Below.alloc ?_ ?_ _) | (with_reducible refine Below.setCell ?_ ?_ _) | go_size))
  have hz1 := hb1.size
  (try simp at hz1)
  clear hb1
  replace cA := A1.cell
  replace fA := A1.frozen
  replace zA := A1.size
  replace cW := W1.cell
  replace fW := W1.frozen
  replace zW := W1.size
  go_wp2_with fail
  refine wp_forget (fun v => Below w.heap.size w v ∧ Blk v (w.heap.size) #[.int .u64 X, .int .u64 (hi (Y)), .int .u64 (lo (Y)), .int .u64 M] 44 ∧ Blk v (w.heap.size + 1) #[.int .u64 (hi (W)), .int .u64 (lo (W))] 38) ⟨by (repeat' (first | (with_reducible exact Below.refl _ _) | (with_reducible assumption) | (with_reducible refine below_drewN ?_ _) | (with_reducible refine Below.drew ?_) | (with_reducible refine Below.alloc ?_ ?_ _) | (with_reducible refine Below.setCell ?_ ?_ _) | go_size)), by (repeat' (first | (with_reducible assumption) | (with_reducible exact Blk.alloc_new _ _ _ (by first | rfl | (simp; done) | omega)) | (with_reducible refine Blk.drewN ?_ _) | (with_reducible refine Blk.drew ?_) | (with_reducible refine Blk.alloc_old ?_ _) | (with_reducible apply Blk.set_same) | (with_reducible refine Blk.set_other ?_ (by first | omega | (simp; done) | (simp; omega)) _) | (exact rfl))), by (repeat' (first | (with_reducible assumption) | (with_reducible exact Blk.alloc_new _ _ _ (by first | rfl | (simp; done) | omega)) | (with_reducible refine Blk.drewN ?_ _) | (with_reducible refine Blk.drew ?_) | (with_reducible refine Blk.alloc_old ?_ _) | (with_reducible apply Blk.set_same) | (with_reducible refine Blk.set_other ?_ (by first | omega | (simp; done) | (simp; omega)) _) | (exact rfl)))⟩ ?_
  rintro v2 ⟨gv2, Av2, Wv2⟩
  have qA2 := blk_calm Av2
  have qW2 := blk_calm Wv2
  refine wp_region_quiet_below (by kernel_rfl) (by kernel_rfl) ?_
  repeat (go_big_quiet_step ((first
      | (go_at_call 26; (with_reducible exact Calls.regrown_of (lat X Y M 4611686018427387904 s _ hX hY hM (by omega) Hhs.out)))
      | (go_at_call 34; (with_reducible exact Calls.regrown_of (wcmpC s W c _ s1 hW Hhc.out)))
      | (go_at_call 33; (with_reducible exact Calls.regrown_of (ten_true _))))))
  refine wpQuiet_nil ?_
  intro _ hw'
  obtain ⟨pq, hw''⟩ := hw'
  subst hw''
  have hb2 := below_regrown v2 pq.d pq.os
  generalize Sort.grow (redrawn v2 pq.d) pq.os = w2 at *
  have A2 : Blk w2 (w.heap.size) #[.int .u64 X, .int .u64 (hi (Y)), .int .u64 (lo (Y)), .int .u64 M] 44 := Blk.below Av2 hb2 Av2.size
  have W2 : Blk w2 (w.heap.size + 1) #[.int .u64 (hi (W)), .int .u64 (lo (W))] 38 := Blk.below Wv2 hb2 Wv2.size
  have g2 : Below w.heap.size w w2 := gv2.trans (hb2.mono gv2.size)
  have hz2 : w.heap.size ≤ w2.heap.size := g2.size
  clear hb2 gv2 Av2 qA2 Wv2 qW2
  replace cA := A2.cell
  replace fA := A2.frozen
  replace zA := A2.size
  replace cW := W2.cell
  replace fW := W2.frozen
  replace zW := W2.size
  go_wp2
  go_ret
  exact ⟨rfl, by (repeat' (first | (with_reducible exact Below.refl _ _) | (with_reducible assumption) | (with_reducible refine below_drewN ?_ _) | (with_reducible refine Below.drew ?_) | (with_reducible refine Below.alloc ?_ ?_ _) | (with_reducible refine Below.setCell ?_ ?_ _) | go_size))⟩
set_option maxHeartbeats 1000000 in
theorem LR_e (X Y M W t s c s2 c2 : Int) (w : World) (e1 : decide (68719476736 ≤ hi Y) = false) (e2 : decide (68719476736 ≤ hi W) = false) (e3 : decide (68719476736 ≤ M) = false) (hX : 0 ≤ X ∧ X ≤ 18446744073709551615) (hY : In128 Y) (hM : 0 ≤ M ∧ M ≤ 18446744073709551615) (hW : In128 W) (ht : lr X Y M W = t) (ht0 : 0 ≤ t ∧ t ≤ 9223372036854775808) (hn : (t == 9223372036854775808) = false) (hp : decide (0 < t) = false) (hs : la X Y M t = s) (s1 : In128 s) (hc : cmp s W = c) (hcc : decide (0 ≤ c) = true) :
    Calls Try.prog 7 #[lv X Y M, wv W] w fun e w' => e = .returned (.bool true) ∧ Below w.heap.size w w' := by
  have Hht := hide ht; have Hhs := hide hs; have Hhc := hide hc; clear ht hs hc
  go_enter Try.func7, Try.ntmps7
  go_wp2_with fail
  refine (lreach X Y M W t _ hX hY hM hW Hht.out).mono ?_
  rintro e w1 ⟨rfl, hb1⟩
  have A1 : Blk w1 (w.heap.size) #[.int .u64 X, .int .u64 (hi (Y)), .int .u64 (lo (Y)), .int .u64 M] 44 := Blk.below (by (repeat' (first | (with_reducible assumption) | (with_reducible exact Blk.alloc_new _ _ _ (by first | rfl | (simp; done) | omega)) | (with_reducible refine Blk.drewN ?_ _) | (with_reducible refine Blk.drew ?_) | (with_reducible refine Blk.alloc_old ?_ _) | (with_reducible apply Blk.set_same) | (with_reducible refine Blk.set_other ?_ (by first | omega | (simp; done) | (simp; omega)) _) | (exact rfl)))) hb1 (by first | (simp; done) | omega | (simp; omega))
  have W1 : Blk w1 (w.heap.size + 1) #[.int .u64 (hi (W)), .int .u64 (lo (W))] 38 := Blk.below (by (repeat' (first | (with_reducible assumption) | (with_reducible exact Blk.alloc_new _ _ _ (by first | rfl | (simp; done) | omega)) | (with_reducible refine Blk.drewN ?_ _) | (with_reducible refine Blk.drew ?_) | (with_reducible refine Blk.alloc_old ?_ _) | (with_reducible apply Blk.set_same) | (with_reducible refine Blk.set_other ?_ (by first | omega | (simp; done) | (simp; omega)) _) | (exact rfl)))) hb1 (by first | (simp; done) | omega | (simp; omega))
  have g1 : Below w.heap.size w w1 := by refine Below.trans ?_ (hb1.mono ?_) <;> (repeat' (first | (with_reducible exact Below.refl _ _) | (with_reducible assumption) | (with_reducible refine below_drewN ?_ _) | (with_reducible refine Below.drew ?_) | (with_reducible refine Below.alloc ?_ ?_ _) | (with_reducible refine Below.setCell ?_ ?_ _) | go_size))
  have hz1 := hb1.size
  (try simp at hz1)
  clear hb1
  replace cA := A1.cell
  replace fA := A1.frozen
  replace zA := A1.size
  replace cW := W1.cell
  replace fW := W1.frozen
  replace zW := W1.size
  go_wp2_with fail
  refine wp_forget (fun v => Below w.heap.size w v ∧ Blk v (w.heap.size) #[.int .u64 X, .int .u64 (hi (Y)), .int .u64 (lo (Y)), .int .u64 M] 44 ∧ Blk v (w.heap.size + 1) #[.int .u64 (hi (W)), .int .u64 (lo (W))] 38) ⟨by (repeat' (first | (with_reducible exact Below.refl _ _) | (with_reducible assumption) | (with_reducible refine below_drewN ?_ _) | (with_reducible refine Below.drew ?_) | (with_reducible refine Below.alloc ?_ ?_ _) | (with_reducible refine Below.setCell ?_ ?_ _) | go_size)), by (repeat' (first | (with_reducible assumption) | (with_reducible exact Blk.alloc_new _ _ _ (by first | rfl | (simp; done) | omega)) | (with_reducible refine Blk.drewN ?_ _) | (with_reducible refine Blk.drew ?_) | (with_reducible refine Blk.alloc_old ?_ _) | (with_reducible apply Blk.set_same) | (with_reducible refine Blk.set_other ?_ (by first | omega | (simp; done) | (simp; omega)) _) | (exact rfl))), by (repeat' (first | (with_reducible assumption) | (with_reducible exact Blk.alloc_new _ _ _ (by first | rfl | (simp; done) | omega)) | (with_reducible refine Blk.drewN ?_ _) | (with_reducible refine Blk.drew ?_) | (with_reducible refine Blk.alloc_old ?_ _) | (with_reducible apply Blk.set_same) | (with_reducible refine Blk.set_other ?_ (by first | omega | (simp; done) | (simp; omega)) _) | (exact rfl)))⟩ ?_
  rintro v2 ⟨gv2, Av2, Wv2⟩
  have qA2 := blk_calm Av2
  have qW2 := blk_calm Wv2
  refine wp_region_quiet_below (by kernel_rfl) (by kernel_rfl) ?_
  repeat (go_big_quiet_step ((first
      | (go_at_call 33; (with_reducible exact Calls.regrown_of (ten_true _))))))
  refine wpQuiet_nil ?_
  intro _ hw'
  obtain ⟨pq, hw''⟩ := hw'
  subst hw''
  have hb2 := below_regrown v2 pq.d pq.os
  generalize Sort.grow (redrawn v2 pq.d) pq.os = w2 at *
  have A2 : Blk w2 (w.heap.size) #[.int .u64 X, .int .u64 (hi (Y)), .int .u64 (lo (Y)), .int .u64 M] 44 := Blk.below Av2 hb2 Av2.size
  have W2 : Blk w2 (w.heap.size + 1) #[.int .u64 (hi (W)), .int .u64 (lo (W))] 38 := Blk.below Wv2 hb2 Wv2.size
  have g2 : Below w.heap.size w w2 := gv2.trans (hb2.mono gv2.size)
  have hz2 : w.heap.size ≤ w2.heap.size := g2.size
  clear hb2 gv2 Av2 qA2 Wv2 qW2
  replace cA := A2.cell
  replace fA := A2.frozen
  replace zA := A2.size
  replace cW := W2.cell
  replace fW := W2.frozen
  replace zW := W2.size
  go_wp2_with fail
  refine wp_forget (fun v => Below w.heap.size w v ∧ Blk v (w.heap.size) #[.int .u64 X, .int .u64 (hi (Y)), .int .u64 (lo (Y)), .int .u64 M] 44 ∧ Blk v (w.heap.size + 1) #[.int .u64 (hi (W)), .int .u64 (lo (W))] 38) ⟨by (repeat' (first | (with_reducible exact Below.refl _ _) | (with_reducible assumption) | (with_reducible refine below_drewN ?_ _) | (with_reducible refine Below.drew ?_) | (with_reducible refine Below.alloc ?_ ?_ _) | (with_reducible refine Below.setCell ?_ ?_ _) | go_size)), by (repeat' (first | (with_reducible assumption) | (with_reducible exact Blk.alloc_new _ _ _ (by first | rfl | (simp; done) | omega)) | (with_reducible refine Blk.drewN ?_ _) | (with_reducible refine Blk.drew ?_) | (with_reducible refine Blk.alloc_old ?_ _) | (with_reducible apply Blk.set_same) | (with_reducible refine Blk.set_other ?_ (by first | omega | (simp; done) | (simp; omega)) _) | (exact rfl))), by (repeat' (first | (with_reducible assumption) | (with_reducible exact Blk.alloc_new _ _ _ (by first | rfl | (simp; done) | omega)) | (with_reducible refine Blk.drewN ?_ _) | (with_reducible refine Blk.drew ?_) | (with_reducible refine Blk.alloc_old ?_ _) | (with_reducible apply Blk.set_same) | (with_reducible refine Blk.set_other ?_ (by first | omega | (simp; done) | (simp; omega)) _) | (exact rfl)))⟩ ?_
  rintro v3 ⟨gv3, Av3, Wv3⟩
  have qA3 := blk_calm Av3
  have qW3 := blk_calm Wv3
  refine wp_region_quiet_below (by kernel_rfl) (by kernel_rfl) ?_
  repeat (go_big_quiet_step ((first
      | (go_at_call 26; (with_reducible exact Calls.regrown_of (lat X Y M t s _ hX hY hM (by omega) Hhs.out)))
      | (go_at_call 34; (with_reducible exact Calls.regrown_of (wcmpC s W c _ s1 hW Hhc.out)))
      | (go_at_call 33; (with_reducible exact Calls.regrown_of (ten_true _))))))
  refine wpQuiet_nil ?_
  intro _ hw'
  obtain ⟨pq, hw''⟩ := hw'
  subst hw''
  have hb3 := below_regrown v3 pq.d pq.os
  generalize Sort.grow (redrawn v3 pq.d) pq.os = w3 at *
  have A3 : Blk w3 (w.heap.size) #[.int .u64 X, .int .u64 (hi (Y)), .int .u64 (lo (Y)), .int .u64 M] 44 := Blk.below Av3 hb3 Av3.size
  have W3 : Blk w3 (w.heap.size + 1) #[.int .u64 (hi (W)), .int .u64 (lo (W))] 38 := Blk.below Wv3 hb3 Wv3.size
  have g3 : Below w.heap.size w w3 := gv3.trans (hb3.mono gv3.size)
  have hz3 : w.heap.size ≤ w3.heap.size := g3.size
  clear hb3 gv3 Av3 qA3 Wv3 qW3
  replace cA := A3.cell
  replace fA := A3.frozen
  replace zA := A3.size
  replace cW := W3.cell
  replace fW := W3.frozen
  replace zW := W3.size
  go_wp2
  go_ret
  exact ⟨rfl, by (repeat' (first | (with_reducible exact Below.refl _ _) | (with_reducible assumption) | (with_reducible refine below_drewN ?_ _) | (with_reducible refine Below.drew ?_) | (with_reducible refine Below.alloc ?_ ?_ _) | (with_reducible refine Below.setCell ?_ ?_ _) | go_size))⟩
set_option maxHeartbeats 1000000 in
theorem LR_g (X Y M W t s c s2 c2 : Int) (w : World) (e1 : decide (68719476736 ≤ hi Y) = false) (e2 : decide (68719476736 ≤ hi W) = false) (e3 : decide (68719476736 ≤ M) = false) (hX : 0 ≤ X ∧ X ≤ 18446744073709551615) (hY : In128 Y) (hM : 0 ≤ M ∧ M ≤ 18446744073709551615) (hW : In128 W) (ht : lr X Y M W = t) (ht0 : 0 ≤ t ∧ t ≤ 9223372036854775808) (hn : (t == 9223372036854775808) = false) (hp : decide (0 < t) = true) (hp2 : 0 < t) (hs : la X Y M t = s) (s1 : In128 s) (hc : cmp s W = c) (hcc : decide (0 ≤ c) = true) (hs2 : la X Y M (t - 1) = s2) (s3 : In128 s2) (hc2 : cmp s2 W = c2) (hcc2 : decide (0 ≤ c2) = false) :
    Calls Try.prog 7 #[lv X Y M, wv W] w fun e w' => e = .returned (.bool true) ∧ Below w.heap.size w w' := by
  have Hht := hide ht; have Hhs := hide hs; have Hhc := hide hc; have Hhs2 := hide hs2; have Hhc2 := hide hc2; clear ht hs hc hs2 hc2
  have hwr : IntKind.u64.wrap (t - 1) = t - 1 := IntWalk.u64_in _ ⟨by omega, by omega⟩
  go_enter Try.func7, Try.ntmps7
  go_wp2_with fail
  refine (lreach X Y M W t _ hX hY hM hW Hht.out).mono ?_
  rintro e w1 ⟨rfl, hb1⟩
  have A1 : Blk w1 (w.heap.size) #[.int .u64 X, .int .u64 (hi (Y)), .int .u64 (lo (Y)), .int .u64 M] 44 := Blk.below (by (repeat' (first | (with_reducible assumption) | (with_reducible exact Blk.alloc_new _ _ _ (by first | rfl | (simp; done) | omega)) | (with_reducible refine Blk.drewN ?_ _) | (with_reducible refine Blk.drew ?_) | (with_reducible refine Blk.alloc_old ?_ _) | (with_reducible apply Blk.set_same) | (with_reducible refine Blk.set_other ?_ (by first | omega | (simp; done) | (simp; omega)) _) | (exact rfl)))) hb1 (by first | (simp; done) | omega | (simp; omega))
  have W1 : Blk w1 (w.heap.size + 1) #[.int .u64 (hi (W)), .int .u64 (lo (W))] 38 := Blk.below (by (repeat' (first | (with_reducible assumption) | (with_reducible exact Blk.alloc_new _ _ _ (by first | rfl | (simp; done) | omega)) | (with_reducible refine Blk.drewN ?_ _) | (with_reducible refine Blk.drew ?_) | (with_reducible refine Blk.alloc_old ?_ _) | (with_reducible apply Blk.set_same) | (with_reducible refine Blk.set_other ?_ (by first | omega | (simp; done) | (simp; omega)) _) | (exact rfl)))) hb1 (by first | (simp; done) | omega | (simp; omega))
  have g1 : Below w.heap.size w w1 := by refine Below.trans ?_ (hb1.mono ?_) <;> (repeat' (first | (with_reducible exact Below.refl _ _) | (with_reducible assumption) | (with_reducible refine below_drewN ?_ _) | (with_reducible refine Below.drew ?_) | (with_reducible refine Below.alloc ?_ ?_ _) | (with_reducible refine Below.setCell ?_ ?_ _) | go_size))
  have hz1 := hb1.size
  (try simp at hz1)
  clear hb1
  replace cA := A1.cell
  replace fA := A1.frozen
  replace zA := A1.size
  replace cW := W1.cell
  replace fW := W1.frozen
  replace zW := W1.size
  go_wp2_with fail
  refine wp_forget (fun v => Below w.heap.size w v ∧ Blk v (w.heap.size) #[.int .u64 X, .int .u64 (hi (Y)), .int .u64 (lo (Y)), .int .u64 M] 44 ∧ Blk v (w.heap.size + 1) #[.int .u64 (hi (W)), .int .u64 (lo (W))] 38) ⟨by (repeat' (first | (with_reducible exact Below.refl _ _) | (with_reducible assumption) | (with_reducible refine below_drewN ?_ _) | (with_reducible refine Below.drew ?_) | (with_reducible refine Below.alloc ?_ ?_ _) | (with_reducible refine Below.setCell ?_ ?_ _) | go_size)), by (repeat' (first | (with_reducible assumption) | (with_reducible exact Blk.alloc_new _ _ _ (by first | rfl | (simp; done) | omega)) | (with_reducible refine Blk.drewN ?_ _) | (with_reducible refine Blk.drew ?_) | (with_reducible refine Blk.alloc_old ?_ _) | (with_reducible apply Blk.set_same) | (with_reducible refine Blk.set_other ?_ (by first | omega | (simp; done) | (simp; omega)) _) | (exact rfl))), by (repeat' (first | (with_reducible assumption) | (with_reducible exact Blk.alloc_new _ _ _ (by first | rfl | (simp; done) | omega)) | (with_reducible refine Blk.drewN ?_ _) | (with_reducible refine Blk.drew ?_) | (with_reducible refine Blk.alloc_old ?_ _) | (with_reducible apply Blk.set_same) | (with_reducible refine Blk.set_other ?_ (by first | omega | (simp; done) | (simp; omega)) _) | (exact rfl)))⟩ ?_
  rintro v2 ⟨gv2, Av2, Wv2⟩
  have qA2 := blk_calm Av2
  have qW2 := blk_calm Wv2
  refine wp_region_quiet_below (by kernel_rfl) (by kernel_rfl) ?_
  repeat (go_big_quiet_step ((first
      | (go_at_call 26; (with_reducible exact Calls.regrown_of (lat X Y M (t - 1) s2 _ hX hY hM (by omega) Hhs2.out)))
      | (go_at_call 34; (with_reducible exact Calls.regrown_of (wcmpC s2 W c2 _ s3 hW Hhc2.out))))))
  refine wpQuiet_nil ?_
  intro _ hw'
  obtain ⟨pq, hw''⟩ := hw'
  subst hw''
  have hb2 := below_regrown v2 pq.d pq.os
  generalize Sort.grow (redrawn v2 pq.d) pq.os = w2 at *
  have A2 : Blk w2 (w.heap.size) #[.int .u64 X, .int .u64 (hi (Y)), .int .u64 (lo (Y)), .int .u64 M] 44 := Blk.below Av2 hb2 Av2.size
  have W2 : Blk w2 (w.heap.size + 1) #[.int .u64 (hi (W)), .int .u64 (lo (W))] 38 := Blk.below Wv2 hb2 Wv2.size
  have g2 : Below w.heap.size w w2 := gv2.trans (hb2.mono gv2.size)
  have hz2 : w.heap.size ≤ w2.heap.size := g2.size
  clear hb2 gv2 Av2 qA2 Wv2 qW2
  replace cA := A2.cell
  replace fA := A2.frozen
  replace zA := A2.size
  replace cW := W2.cell
  replace fW := W2.frozen
  replace zW := W2.size
  go_wp2_with fail
  refine wp_forget (fun v => Below w.heap.size w v ∧ Blk v (w.heap.size) #[.int .u64 X, .int .u64 (hi (Y)), .int .u64 (lo (Y)), .int .u64 M] 44 ∧ Blk v (w.heap.size + 1) #[.int .u64 (hi (W)), .int .u64 (lo (W))] 38) ⟨by (repeat' (first | (with_reducible exact Below.refl _ _) | (with_reducible assumption) | (with_reducible refine below_drewN ?_ _) | (with_reducible refine Below.drew ?_) | (with_reducible refine Below.alloc ?_ ?_ _) | (with_reducible refine Below.setCell ?_ ?_ _) | go_size)), by (repeat' (first | (with_reducible assumption) | (with_reducible exact Blk.alloc_new _ _ _ (by first | rfl | (simp; done) | omega)) | (with_reducible refine Blk.drewN ?_ _) | (with_reducible refine Blk.drew ?_) | (with_reducible refine Blk.alloc_old ?_ _) | (with_reducible apply Blk.set_same) | (with_reducible refine Blk.set_other ?_ (by first | omega | (simp; done) | (simp; omega)) _) | (exact rfl))), by (repeat' (first | (with_reducible assumption) | (with_reducible exact Blk.alloc_new _ _ _ (by first | rfl | (simp; done) | omega)) | (with_reducible refine Blk.drewN ?_ _) | (with_reducible refine Blk.drew ?_) | (with_reducible refine Blk.alloc_old ?_ _) | (with_reducible apply Blk.set_same) | (with_reducible refine Blk.set_other ?_ (by first | omega | (simp; done) | (simp; omega)) _) | (exact rfl)))⟩ ?_
  rintro v3 ⟨gv3, Av3, Wv3⟩
  have qA3 := blk_calm Av3
  have qW3 := blk_calm Wv3
  refine wp_region_quiet_below (by kernel_rfl) (by kernel_rfl) ?_
  repeat (go_big_quiet_step ((first
      | (go_at_call 26; (with_reducible exact Calls.regrown_of (lat X Y M t s _ hX hY hM (by omega) Hhs.out)))
      | (go_at_call 34; (with_reducible exact Calls.regrown_of (wcmpC s W c _ s1 hW Hhc.out)))
      | (go_at_call 33; (with_reducible exact Calls.regrown_of (ten_true _))))))
  refine wpQuiet_nil ?_
  intro _ hw'
  obtain ⟨pq, hw''⟩ := hw'
  subst hw''
  have hb3 := below_regrown v3 pq.d pq.os
  generalize Sort.grow (redrawn v3 pq.d) pq.os = w3 at *
  have A3 : Blk w3 (w.heap.size) #[.int .u64 X, .int .u64 (hi (Y)), .int .u64 (lo (Y)), .int .u64 M] 44 := Blk.below Av3 hb3 Av3.size
  have W3 : Blk w3 (w.heap.size + 1) #[.int .u64 (hi (W)), .int .u64 (lo (W))] 38 := Blk.below Wv3 hb3 Wv3.size
  have g3 : Below w.heap.size w w3 := gv3.trans (hb3.mono gv3.size)
  have hz3 : w.heap.size ≤ w3.heap.size := g3.size
  clear hb3 gv3 Av3 qA3 Wv3 qW3
  replace cA := A3.cell
  replace fA := A3.frozen
  replace zA := A3.size
  replace cW := W3.cell
  replace fW := W3.frozen
  replace zW := W3.size
  go_wp2
  go_ret
  exact ⟨rfl, by (repeat' (first | (with_reducible exact Below.refl _ _) | (with_reducible assumption) | (with_reducible refine below_drewN ?_ _) | (with_reducible refine Below.drew ?_) | (with_reducible refine Below.alloc ?_ ?_ _) | (with_reducible refine Below.setCell ?_ ?_ _) | go_size))⟩
theorem cmp_neg {a b : Int} (h : a < b) : decide (cmp a b < 0) = true := by unfold cmp; rw [if_pos h]; rfl
theorem LineReaches_walk (X : Int) (hX : 0 ≤ X ∧ X ≤ 18446744073709551615) (a1 : Int) (h1 : 0 ≤ a1 ∧ a1 ≤ 18446744073709551615) (a2 : Int) (h2 : 0 ≤ a2 ∧ a2 ≤ 18446744073709551615) (M : Int) (hM : 0 ≤ M ∧ M ≤ 18446744073709551615)
    (c1 : Int) (l1 : 0 ≤ c1 ∧ c1 ≤ 18446744073709551615) (c2 : Int) (l2 : 0 ≤ c2 ∧ c2 ≤ 18446744073709551615) (w : World) :
    Calls Try.prog 7 #[.agg #[.int .u64 X, .int .u64 a1, .int .u64 a2, .int .u64 M], .agg #[.int .u64 c1, .int .u64 c2]] w fun e w' => e = .returned (.bool true) ∧ Below w.heap.size w w' := by
  obtain ⟨Y, hY, rfl, rfl⟩ := wv_of h1 h2
  obtain ⟨W, hW, rfl, rfl⟩ := wv_of l1 l2
  by_cases e1 : 68719476736 ≤ hi Y
  · exact LR_a X Y M W w (decide_eq_true e1)
  by_cases e2 : 68719476736 ≤ hi W
  · exact LR_b X Y M W w (decide_eq_false e1) (decide_eq_true e2)
  by_cases e3 : 68719476736 ≤ M
  · exact LR_c X Y M W w (decide_eq_false e1) (decide_eq_false e2) (decide_eq_true e3)
  have hs : LSmall Y M := lsmall_of hY (by omega) (by omega)
  have hr := lr_rng (X := X) (Y := Y) (M := M) (W := W) hX.1 hM.1
  by_cases hn : lr X Y M W = 9223372036854775808
  · exact LR_d X Y M W _ _ _ 0 0 w (decide_eq_false e1) (decide_eq_false e2) (decide_eq_false e3) hX hY hM hW rfl hr (by simp [hn]) rfl (la_in hY) rfl (cmp_neg (reach_never hs hX hW.1 hn))
  · have hk := reach_not hs hX hW.1 hn
    by_cases hp : 0 < lr X Y M W
    · exact LR_g X Y M W _ _ _ _ _ w (decide_eq_false e1) (decide_eq_false e2) (decide_eq_false e3) hX hY hM hW rfl hr (by simp [hn]) (by simp [hp]) hp rfl (la_in hY) rfl (cmp_ge hk.1) rfl (la_in hY) rfl (cmp_lt (hk.2 hp))
    · exact LR_e X Y M W _ _ _ 0 0 w (decide_eq_false e1) (decide_eq_false e2) (decide_eq_false e3) hX hY hM hW rfl hr (by simp [hn]) (by simp [hp]) rfl (la_in hY) rfl (cmp_ge hk.1)
namespace lineReachesDone
theorem own : ownKnob Try.prog.godebug = none := by kernel_rfl
theorem laidOut : laidOutB Try.prog = true := by kernel_rfl
set_option maxRecDepth 100000 in
theorem lifted (os : Os) (started : os.Started) (H : Type) (enc : TypeId × Value → H) :
    ReturnsInHanded {} Try.checked os 7 .any (Rows.lineReachesSpec.pre6 enc Try.prog Try.f7 Rows.lineReachesRow.domain false) (Rows.lineReachesSpec.post enc Try.prog Try.f7 false true false false) := by
  refine returnsInHanded_of_change (C := Try.checked) own started (by kernel_rfl) Try.func7
    (ChangeSpec.witness6 (enc := enc) (C := Try.checked) false ⟨#[], #[.agg #[.int .u64 0, .int .u64 0, .int .u64 0, .int .u64 0], .agg #[.int .u64 0, .int .u64 0]], []⟩ 8 (by kernel_rfl) (by kernel_rfl) (by kernel_rfl) (by kernel_rfl)) ?_
  intro W base args ds gs before hval0 hW hcnd _
  have hval : ∀ (j : Nat) t v, Try.f7.params[j]? = some t → args[j]? = some v → Value.okWide Try.prog W .any base t v := hval0
  have hW' := hW
  obtain ⟨p, q, hA0, hV, rfl, hfz, hnd⟩ := hW
  have hA : DataW.TrodAll enc Try.prog W 0 (fun _ => true) true Try.f7.params.toList args.toList ds p := hA0
  rw [Try.params7] at hA hval
  obtain ⟨v0, vs0, d0, ds0, p0, q0, hargs, rfl, rfl, h0, r0⟩ := trodAll_cons hA
  obtain ⟨v1, vs1, d1, ds1, p1, q1, rfl, rfl, rfl, h1, r1⟩ := trodAll_cons r0
  obtain ⟨rfl, rfl, rfl⟩ := trodAll_nil r1
  obtain rfl : args = #[v0, v1] := by cases args; simp_all
  obtain ⟨rfl, rfl⟩ := trodVars_none hV
  have k0 := h0
  have lt0 : ∀ x ∈ p0, x.block < W.heap.size := by obtain ⟨m, hm⟩ := k0; exact DataW.trod_lt m _ _ _ hm
  obtain ⟨a0_0, a0_1, a0_2, a0_3, rfl, b0_0, b0_1, b0_2, b0_3⟩ := open_line (hval 0 44 v0 rfl rfl) h0
  have k1 := h1
  have lt1 : ∀ x ∈ p1, x.block < W.heap.size := by obtain ⟨m, hm⟩ := k1; exact DataW.trod_lt m _ _ _ hm
  obtain ⟨x1_0, x1_1, y1_0, y1_1, m1, rfl, hd1, hp1, q1_0, q1_1⟩ := Joins.open_agg2 Try.underlying38 (by kernel_rfl) (show Try.prog.cellsOf 38 = 2 by kernel_rfl) (hval 1 38 v1 rfl rfl) h1
  obtain ⟨a1_0, e1_0, _, wf1_0⟩ := DataW.trod_int Try.underlying22 q1_0
  simp at e1_0
  subst e1_0
  have b1_0 := bounds_u64 wf1_0
  obtain ⟨a1_1, e1_1, _, wf1_1⟩ := DataW.trod_int Try.underlying22 q1_1
  simp at e1_1
  subst e1_1
  have b1_1 := bounds_u64 wf1_1
  clear hA0 hval0
  refine (LineReaches_walk a0_0 b0_0 a0_1 b0_1 a0_2 b0_2 a0_3 b0_3 a1_0 b1_0 a1_1 b1_1 W).mono fun e W' ⟨he, bel⟩ => ?_
  subst he
  exact ⟨_, rfl, _, _, _, [], _, [], hW', trodAll_mk1 (shut_bool Try.underlying4 _), (trodAll_cons_mk (Below.trod laidOut (by kernel_rfl) (of_decide_eq_true (by kernel_rfl)) k0 bel lt0) (trodAll_cons_mk (Below.trod laidOut (by kernel_rfl) (of_decide_eq_true (by kernel_rfl)) k1 bel lt1) trodAll_mk0)), rfl, bel.frame _, fun h => by cases h⟩
theorem over : Rows.lineReachesRow.holds Try.pinned (OpenSpec.ofChange Rows.lineReachesSpec) :=
  OpenClaim.holds_of_wide 7 Try.f7 rfl rfl rfl rfl rfl rfl rfl ⟨rfl, rfl, rfl, rfl, rfl⟩ rfl rfl rfl rfl rfl (by kernel_rfl) Try.func7 (by kernel_rfl)
    (of_decide_eq_true (by kernel_rfl)) (by unfold Func.isWrapper; first | (rw [if_pos (by decide +kernel)]; kernel_rfl) | (rw [if_neg (by decide +kernel)]; exact ⟨rfl, rfl⟩))
    (fun os started H enc _ => lifted os started H enc)
end lineReachesDone
theorem LineReaches_holds : Rows.LineReachesSaid := lineReachesDone.over

end Go.Proofs.Ytiaciibnakiikaa
