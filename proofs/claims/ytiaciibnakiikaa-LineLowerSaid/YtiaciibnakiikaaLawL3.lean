/-
  The statement LineLower: of two lines of one slope the lower one is nowhere above the other one, and reaches nothing earlier. Conditions: none.
-/
import Derived.Test.YtiaciibnakiikaaLawL2
namespace Go.Proofs.Ytiaciibnakiikaa
open Go.ChangeShapes Go.WideShapes Go.ChangeAt Go.RowKit
open Go.Sort
set_option linter.unusedVariables false
theorem LL_far0 (Xa Ya Ma Xb Yb Mb x W : Int) (w : World)  (e0 : decide (68719476736 ≤ hi Ya) = true) :
    Calls Try.prog 8 #[lv Xa Ya Ma, lv Xb Yb Mb, .agg #[.int .u64 x, .int .u64 (hi W), .int .u64 (lo W)]] w fun e w' => e = .returned (.bool true) ∧ Below w.heap.size w w' := by
  go_enter Try.func8, Try.ntmps8
  go_wp2_with fail
  refine (ten_true _).mono ?_
  rintro e w1 ⟨rfl, hb1⟩
  have g1 : Below w.heap.size w w1 := by refine Below.trans ?_ (hb1.mono ?_) <;> (repeat' (first | (with_reducible exact Below.refl _ _) | (with_reducible assumption) | (with_reducible refine below_drewN ?_ _) | (with_reducible refine Below.drew ?_) | (with_reducible refine Below.alloc ?_ ?_ _) | (with_reducible refine Below.setCell ?_ ?_ _) | go_size))
  have hz1 := hb1.size
  (try simp at hz1)
  clear hb1
  go_wp2
  go_ret
  exact ⟨rfl, by (repeat' (first | (with_reducible exact Below.refl _ _) | (with_reducible assumption) | (with_reducible refine below_drewN ?_ _) | (with_reducible refine Below.drew ?_) | (with_reducible refine Below.alloc ?_ ?_ _) | (with_reducible refine Below.setCell ?_ ?_ _) | go_size))⟩
theorem LL_far1 (Xa Ya Ma Xb Yb Mb x W : Int) (w : World) (e0 : decide (68719476736 ≤ hi Ya) = false) (e1 : decide (68719476736 ≤ hi Yb) = true) :
    Calls Try.prog 8 #[lv Xa Ya Ma, lv Xb Yb Mb, .agg #[.int .u64 x, .int .u64 (hi W), .int .u64 (lo W)]] w fun e w' => e = .returned (.bool true) ∧ Below w.heap.size w w' := by
  go_enter Try.func8, Try.ntmps8
  go_wp2_with fail
  refine (ten_true _).mono ?_
  rintro e w1 ⟨rfl, hb1⟩
  have g1 : Below w.heap.size w w1 := by refine Below.trans ?_ (hb1.mono ?_) <;> (repeat' (first | (with_reducible exact Below.refl _ _) | (with_reducible assumption) | (with_reducible refine below_drewN ?_ _) | (with_reducible refine Below.drew ?_) | (with_reducible refine Below.alloc ?_ ?_ _) | (with_reducible refine Below.setCell ?_ ?_ _) | go_size))
  have hz1 := hb1.size
  (try simp at hz1)
  clear hb1
  go_wp2
  go_ret
  exact ⟨rfl, by (repeat' (first | (with_reducible exact Below.refl _ _) | (with_reducible assumption) | (with_reducible refine below_drewN ?_ _) | (with_reducible refine Below.drew ?_) | (with_reducible refine Below.alloc ?_ ?_ _) | (with_reducible refine Below.setCell ?_ ?_ _) | go_size))⟩
theorem LL_far2 (Xa Ya Ma Xb Yb Mb x W : Int) (w : World) (e0 : decide (68719476736 ≤ hi Ya) = false) (e1 : decide (68719476736 ≤ hi Yb) = false) (e2 : decide (68719476736 ≤ hi W) = true) :
    Calls Try.prog 8 #[lv Xa Ya Ma, lv Xb Yb Mb, .agg #[.int .u64 x, .int .u64 (hi W), .int .u64 (lo W)]] w fun e w' => e = .returned (.bool true) ∧ Below w.heap.size w w' := by
  go_enter Try.func8, Try.ntmps8
  go_wp2_with fail
  refine (ten_true _).mono ?_
  rintro e w1 ⟨rfl, hb1⟩
  have g1 : Below w.heap.size w w1 := by refine Below.trans ?_ (hb1.mono ?_) <;> (repeat' (first | (with_reducible exact Below.refl _ _) | (with_reducible assumption) | (with_reducible refine below_drewN ?_ _) | (with_reducible refine Below.drew ?_) | (with_reducible refine Below.alloc ?_ ?_ _) | (with_reducible refine Below.setCell ?_ ?_ _) | go_size))
  have hz1 := hb1.size
  (try simp at hz1)
  clear hb1
  go_wp2
  go_ret
  exact ⟨rfl, by (repeat' (first | (with_reducible exact Below.refl _ _) | (with_reducible assumption) | (with_reducible refine below_drewN ?_ _) | (with_reducible refine Below.drew ?_) | (with_reducible refine Below.alloc ?_ ?_ _) | (with_reducible refine Below.setCell ?_ ?_ _) | go_size))⟩
theorem LL_far3 (Xa Ya Ma Xb Yb Mb x W : Int) (w : World) (e0 : decide (68719476736 ≤ hi Ya) = false) (e1 : decide (68719476736 ≤ hi Yb) = false) (e2 : decide (68719476736 ≤ hi W) = false) (e3 : decide (68719476736 ≤ Ma) = true) :
    Calls Try.prog 8 #[lv Xa Ya Ma, lv Xb Yb Mb, .agg #[.int .u64 x, .int .u64 (hi W), .int .u64 (lo W)]] w fun e w' => e = .returned (.bool true) ∧ Below w.heap.size w w' := by
  go_enter Try.func8, Try.ntmps8
  go_wp2_with fail
  refine (ten_true _).mono ?_
  rintro e w1 ⟨rfl, hb1⟩
  have g1 : Below w.heap.size w w1 := by refine Below.trans ?_ (hb1.mono ?_) <;> (repeat' (first | (with_reducible exact Below.refl _ _) | (with_reducible assumption) | (with_reducible refine below_drewN ?_ _) | (with_reducible refine Below.drew ?_) | (with_reducible refine Below.alloc ?_ ?_ _) | (with_reducible refine Below.setCell ?_ ?_ _) | go_size))
  have hz1 := hb1.size
  (try simp at hz1)
  clear hb1
  go_wp2
  go_ret
  exact ⟨rfl, by (repeat' (first | (with_reducible exact Below.refl _ _) | (with_reducible assumption) | (with_reducible refine below_drewN ?_ _) | (with_reducible refine Below.drew ?_) | (with_reducible refine Below.alloc ?_ ?_ _) | (with_reducible refine Below.setCell ?_ ?_ _) | go_size))⟩
set_option maxRecDepth 100000 in
set_option maxHeartbeats 2000000 in
theorem LL_af (Xa Ya Ma Xb Yb Mb x W X Y M z s p q c1 c2 c3 c4 t ta tb : Int) (w : World) (e0 : decide (68719476736 ≤ hi Ya) = false) (e1 : decide (68719476736 ≤ hi Yb) = false) (e2 : decide (68719476736 ≤ hi W) = false) (e3 : decide (68719476736 ≤ Ma) = false) (hXa : 0 ≤ Xa ∧ Xa ≤ 18446744073709551615) (hYa : In128 Ya) (hMa : 0 ≤ Ma ∧ Ma ≤ 18446744073709551615) (hXb : 0 ≤ Xb ∧ Xb ≤ 18446744073709551615) (hYb : In128 Yb)  (hx : 0 ≤ x ∧ x ≤ 18446744073709551615) (hW : In128 W) (hY : In128 Y) (hX : 0 ≤ X ∧ X ≤ 18446744073709551615) (hM : 0 ≤ M ∧ M ≤ 18446744073709551615)
    (hr : (lowB Xa Ya Ma Xb Yb Ma = true ∧ X = Xb ∧ Y = Yb ∧ M = Ma) ∨ (lowB Xa Ya Ma Xb Yb Ma = false ∧ X = Xa ∧ Y = Ya ∧ M = Ma)) (hna : decide (X = Xa ∧ Y = Ya ∧ M = Ma) = !false) (hnb : false = true → decide (X = Xb ∧ Y = Yb ∧ M = Ma) = true)
    (hz : z = max x (max Xa Xb)) (hs : la X Y M z = s) (hp : la Xa Ya Ma z = p) (hq : la Xb Yb Ma z = q) (s1 : In128 s) (p1 : In128 p) (q1 : In128 q) (hc1 : cmp s p = c1) (hc2 : cmp s q = c2) (k1 : decide (0 < c1) = false) (k2 : decide (0 < c2) = false) (hc3 : cmp W Ya = c3) (k3 : decide (c3 ≤ 0) = true) :
    Calls Try.prog 8 #[lv Xa Ya Ma, lv Xb Yb Mb, .agg #[.int .u64 x, .int .u64 (hi W), .int .u64 (lo W)]] w fun e w' => e = .returned (.bool true) ∧ Below w.heap.size w w' := by
  have Hhr := hide hr; have Hhs := hide hs; have Hhp := hide hp; have Hhq := hide hq; have Hhc1 := hide hc1; have Hhc2 := hide hc2; have Hhc3 := hide hc3; clear hr hs hp hq hc1 hc2 hc3
  have r1 := lneq X Y M Xa Ya Ma false hY hYa hna
  clear hna hnb
  have Hz := hide hz
  clear hz
  go_enter Try.func8, Try.ntmps8
  go_wp2_with fail
  refine (low_any Xa Ya Ma Xb Yb Ma X Y M _ hXa hYa hMa hXb hYb hMa Hhr.out).mono ?_
  rintro e w1 ⟨rfl, hb1⟩
  have A1 : Blk w1 (w.heap.size) #[.int .u64 Xa, .int .u64 (hi (Ya)), .int .u64 (lo (Ya)), .int .u64 Ma] 44 := Blk.below (by (repeat' (first | (with_reducible assumption) | (with_reducible exact Blk.alloc_new _ _ _ (by first | rfl | (simp; done) | omega)) | (with_reducible refine Blk.drewN ?_ _) | (with_reducible refine Blk.drew ?_) | (with_reducible refine Blk.alloc_old ?_ _) | (with_reducible apply Blk.set_same) | (with_reducible refine Blk.set_other ?_ (by first | omega | (simp; done) | (simp; omega)) _) | (exact rfl)))) hb1 (by first | (simp; done) | omega | (simp; omega))
  have B1 : Blk w1 (w.heap.size + 1) #[.int .u64 Xb, .int .u64 (hi (Yb)), .int .u64 (lo (Yb)), .int .u64 Ma] 44 := Blk.below (by (repeat' (first | (with_reducible assumption) | (with_reducible exact Blk.alloc_new _ _ _ (by first | rfl | (simp; done) | omega)) | (with_reducible refine Blk.drewN ?_ _) | (with_reducible refine Blk.drew ?_) | (with_reducible refine Blk.alloc_old ?_ _) | (with_reducible apply Blk.set_same) | (with_reducible refine Blk.set_other ?_ (by first | omega | (simp; done) | (simp; omega)) _) | (exact rfl)))) hb1 (by first | (simp; done) | omega | (simp; omega))
  have Q1 : Blk w1 (w.heap.size + 1 + 1) #[.int .u64 x, .int .u64 (hi (W)), .int .u64 (lo (W))] 46 := Blk.below (by (repeat' (first | (with_reducible assumption) | (with_reducible exact Blk.alloc_new _ _ _ (by first | rfl | (simp; done) | omega)) | (with_reducible refine Blk.drewN ?_ _) | (with_reducible refine Blk.drew ?_) | (with_reducible refine Blk.alloc_old ?_ _) | (with_reducible apply Blk.set_same) | (with_reducible refine Blk.set_other ?_ (by first | omega | (simp; done) | (simp; omega)) _) | (exact rfl)))) hb1 (by first | (simp; done) | omega | (simp; omega))
  have g1 : Below w.heap.size w w1 := by refine Below.trans ?_ (hb1.mono ?_) <;> (repeat' (first | (with_reducible exact Below.refl _ _) | (with_reducible assumption) | (with_reducible refine below_drewN ?_ _) | (with_reducible refine Below.drew ?_) | (with_reducible refine Below.alloc ?_ ?_ _) | (with_reducible refine Below.setCell ?_ ?_ _) | go_size))
  have hz1 := hb1.size
  (try simp at hz1)
  clear hb1
  replace cA := A1.cell
  replace fA := A1.frozen
  replace zA := A1.size
  replace cB := B1.cell
  replace fB := B1.frozen
  replace zB := B1.size
  replace cQ := Q1.cell
  replace fQ := Q1.frozen
  replace zQ := Q1.size
  go_upto_region 7 with (fail)
  go_cut [8] (fun p8 wx => p8 = .int .u64 z ∧ Below w.heap.size w wx ∧ Blk wx (w.heap.size) #[.int .u64 Xa, .int .u64 (hi (Ya)), .int .u64 (lo (Ya)), .int .u64 Ma] 44 ∧ Blk wx (w.heap.size + 1) #[.int .u64 Xb, .int .u64 (hi (Yb)), .int .u64 (lo (Yb)), .int .u64 Ma] 44 ∧ Blk wx (w.heap.size + 1 + 1) #[.int .u64 x, .int .u64 (hi (W)), .int .u64 (lo (W))] 46 ∧ Blk wx (w1.heap.size) #[.int .u64 X, .int .u64 (hi (Y)), .int .u64 (lo (Y)), .int .u64 M] 44)
  case first =>
    go_wp2_with fail
    all_goals
      go_meet
      refine ⟨?_, by (repeat' (first | (with_reducible exact Below.refl _ _) | (with_reducible assumption) | (with_reducible refine below_drewN ?_ _) | (with_reducible refine Below.drew ?_) | (with_reducible refine Below.alloc ?_ ?_ _) | (with_reducible refine Below.setCell ?_ ?_ _) | go_size)), by (repeat' (first | (with_reducible assumption) | (with_reducible exact Blk.alloc_new _ _ _ (by first | rfl | (simp; done) | omega)) | (with_reducible refine Blk.drewN ?_ _) | (with_reducible refine Blk.drew ?_) | (with_reducible refine Blk.alloc_old ?_ _) | (with_reducible apply Blk.set_same) | (with_reducible refine Blk.set_other ?_ (by first | omega | (simp; done) | (simp; omega)) _) | (exact rfl))), by (repeat' (first | (with_reducible assumption) | (with_reducible exact Blk.alloc_new _ _ _ (by first | rfl | (simp; done) | omega)) | (with_reducible refine Blk.drewN ?_ _) | (with_reducible refine Blk.drew ?_) | (with_reducible refine Blk.alloc_old ?_ _) | (with_reducible apply Blk.set_same) | (with_reducible refine Blk.set_other ?_ (by first | omega | (simp; done) | (simp; omega)) _) | (exact rfl))), by (repeat' (first | (with_reducible assumption) | (with_reducible exact Blk.alloc_new _ _ _ (by first | rfl | (simp; done) | omega)) | (with_reducible refine Blk.drewN ?_ _) | (with_reducible refine Blk.drew ?_) | (with_reducible refine Blk.alloc_old ?_ _) | (with_reducible apply Blk.set_same) | (with_reducible refine Blk.set_other ?_ (by first | omega | (simp; done) | (simp; omega)) _) | (exact rfl))), by (repeat' (first | (with_reducible assumption) | (with_reducible exact Blk.alloc_new _ _ _ (by first | rfl | (simp; done) | omega)) | (with_reducible refine Blk.drewN ?_ _) | (with_reducible refine Blk.drew ?_) | (with_reducible refine Blk.alloc_old ?_ _) | (with_reducible apply Blk.set_same) | (with_reducible refine Blk.set_other ?_ (by first | omega | (simp; done) | (simp; omega)) _) | (exact rfl)))⟩
      have := Hz.out
      first | rfl | (exact congrArg (Value.int .u64) (by omega))
  case rest =>
    obtain ⟨rfl, g2, A2, B2, Q2, L2⟩ := hcut
    have hz2 := g2.size
    have zrng : 0 ≤ z ∧ z ≤ 18446744073709551615 := by have := Hz.out; omega
    clear cA fA zA cB fB zB cQ fQ zQ A1 B1 Q1
    have zL0 := L2.size
    have cA := A2.cell; have fA := A2.frozen; have zA := A2.size
    have cB := B2.cell; have fB := B2.frozen; have zB := B2.size
    have cQ := Q2.cell; have fQ := Q2.frozen; have zQ := Q2.size
    have cL := L2.cell; have fL := L2.frozen; have zL := L2.size
    go_wp2_with fail
    refine wp_forget (fun v => Below w.heap.size w v ∧ Blk v (w.heap.size) #[.int .u64 Xa, .int .u64 (hi (Ya)), .int .u64 (lo (Ya)), .int .u64 Ma] 44 ∧ Blk v (w.heap.size + 1) #[.int .u64 Xb, .int .u64 (hi (Yb)), .int .u64 (lo (Yb)), .int .u64 Ma] 44 ∧ Blk v (w.heap.size + 1 + 1) #[.int .u64 x, .int .u64 (hi (W)), .int .u64 (lo (W))] 46 ∧ Blk v (w1.heap.size) #[.int .u64 X, .int .u64 (hi (Y)), .int .u64 (lo (Y)), .int .u64 M] 44) ⟨by (repeat' (first | (with_reducible exact Below.refl _ _) | (with_reducible assumption) | (with_reducible refine below_drewN ?_ _) | (with_reducible refine Below.drew ?_) | (with_reducible refine Below.alloc ?_ ?_ _) | (with_reducible refine Below.setCell ?_ ?_ _) | go_size)), by (repeat' (first | (with_reducible assumption) | (with_reducible exact Blk.alloc_new _ _ _ (by first | rfl | (simp; done) | omega)) | (with_reducible refine Blk.drewN ?_ _) | (with_reducible refine Blk.drew ?_) | (with_reducible refine Blk.alloc_old ?_ _) | (with_reducible apply Blk.set_same) | (with_reducible refine Blk.set_other ?_ (by first | omega | (simp; done) | (simp; omega)) _) | (exact rfl))), by (repeat' (first | (with_reducible assumption) | (with_reducible exact Blk.alloc_new _ _ _ (by first | rfl | (simp; done) | omega)) | (with_reducible refine Blk.drewN ?_ _) | (with_reducible refine Blk.drew ?_) | (with_reducible refine Blk.alloc_old ?_ _) | (with_reducible apply Blk.set_same) | (with_reducible refine Blk.set_other ?_ (by first | omega | (simp; done) | (simp; omega)) _) | (exact rfl))), by (repeat' (first | (with_reducible assumption) | (with_reducible exact Blk.alloc_new _ _ _ (by first | rfl | (simp; done) | omega)) | (with_reducible refine Blk.drewN ?_ _) | (with_reducible refine Blk.drew ?_) | (with_reducible refine Blk.alloc_old ?_ _) | (with_reducible apply Blk.set_same) | (with_reducible refine Blk.set_other ?_ (by first | omega | (simp; done) | (simp; omega)) _) | (exact rfl))), by (repeat' (first | (with_reducible assumption) | (with_reducible exact Blk.alloc_new _ _ _ (by first | rfl | (simp; done) | omega)) | (with_reducible refine Blk.drewN ?_ _) | (with_reducible refine Blk.drew ?_) | (with_reducible refine Blk.alloc_old ?_ _) | (with_reducible apply Blk.set_same) | (with_reducible refine Blk.set_other ?_ (by first | omega | (simp; done) | (simp; omega)) _) | (exact rfl)))⟩ ?_
    rintro v3 ⟨gv3, Av3, Bv3, Qv3, Lv3⟩
    have qA3 := blk_calm Av3
    have qB3 := blk_calm Bv3
    have qQ3 := blk_calm Qv3
    have qL3 := blk_calm Lv3
    refine wp_region_quiet_below (by kernel_rfl) (by kernel_rfl) ?_
    repeat (go_big_quiet_step ((first
        | (go_at_call 26; (with_reducible exact Calls.regrown_of (lat X Y M z s _ hX hY hM zrng Hhs.out)))
        | (go_at_call 26; (with_reducible exact Calls.regrown_of (lat Xa Ya Ma z p _ hXa hYa hMa zrng Hhp.out)))
        | (go_at_call 26; (with_reducible exact Calls.regrown_of (lat Xb Yb Ma z q _ hXb hYb hMa zrng Hhq.out)))
        | (go_at_call 34; (with_reducible exact Calls.regrown_of (wcmpC s p c1 _ s1 p1 Hhc1.out)))
        | (go_at_call 34; (with_reducible exact Calls.regrown_of (wcmpC s q c2 _ s1 q1 Hhc2.out))))))
    refine wpQuiet_nil ?_
    intro _ hw'
    obtain ⟨pq, hw''⟩ := hw'
    subst hw''
    have hb3 := below_regrown v3 pq.d pq.os
    generalize Sort.grow (redrawn v3 pq.d) pq.os = w3 at *
    have A3 : Blk w3 (w.heap.size) #[.int .u64 Xa, .int .u64 (hi (Ya)), .int .u64 (lo (Ya)), .int .u64 Ma] 44 := Blk.below Av3 hb3 Av3.size
    have B3 : Blk w3 (w.heap.size + 1) #[.int .u64 Xb, .int .u64 (hi (Yb)), .int .u64 (lo (Yb)), .int .u64 Ma] 44 := Blk.below Bv3 hb3 Bv3.size
    have Q3 : Blk w3 (w.heap.size + 1 + 1) #[.int .u64 x, .int .u64 (hi (W)), .int .u64 (lo (W))] 46 := Blk.below Qv3 hb3 Qv3.size
    have L3 : Blk w3 (w1.heap.size) #[.int .u64 X, .int .u64 (hi (Y)), .int .u64 (lo (Y)), .int .u64 M] 44 := Blk.below Lv3 hb3 Lv3.size
    have g3 : Below w.heap.size w w3 := gv3.trans (hb3.mono gv3.size)
    have hz3 : w.heap.size ≤ w3.heap.size := g3.size
    clear hb3 gv3 Av3 qA3 Bv3 qB3 Qv3 qQ3 Lv3 qL3
    replace cA := A3.cell
    replace fA := A3.frozen
    replace zA := A3.size
    replace cB := B3.cell
    replace fB := B3.frozen
    replace zB := B3.size
    replace cQ := Q3.cell
    replace fQ := Q3.frozen
    replace zQ := Q3.size
    replace cL := L3.cell
    replace fL := L3.frozen
    replace zL := L3.size
    go_wp2_with fail
    refine (wcmpC W Ya c3 _ hW hYa Hhc3.out).mono ?_
    rintro e w4 ⟨rfl, hb4⟩
    have A4 : Blk w4 (w.heap.size) #[.int .u64 Xa, .int .u64 (hi (Ya)), .int .u64 (lo (Ya)), .int .u64 Ma] 44 := Blk.below (by (repeat' (first | (with_reducible assumption) | (with_reducible exact Blk.alloc_new _ _ _ (by first | rfl | (simp; done) | omega)) | (with_reducible refine Blk.drewN ?_ _) | (with_reducible refine Blk.drew ?_) | (with_reducible refine Blk.alloc_old ?_ _) | (with_reducible apply Blk.set_same) | (with_reducible refine Blk.set_other ?_ (by first | omega | (simp; done) | (simp; omega)) _) | (exact rfl)))) hb4 (by first | (simp; done) | omega | (simp; omega))
    have B4 : Blk w4 (w.heap.size + 1) #[.int .u64 Xb, .int .u64 (hi (Yb)), .int .u64 (lo (Yb)), .int .u64 Ma] 44 := Blk.below (by (repeat' (first | (with_reducible assumption) | (with_reducible exact Blk.alloc_new _ _ _ (by first | rfl | (simp; done) | omega)) | (with_reducible refine Blk.drewN ?_ _) | (with_reducible refine Blk.drew ?_) | (with_reducible refine Blk.alloc_old ?_ _) | (with_reducible apply Blk.set_same) | (with_reducible refine Blk.set_other ?_ (by first | omega | (simp; done) | (simp; omega)) _) | (exact rfl)))) hb4 (by first | (simp; done) | omega | (simp; omega))
    have Q4 : Blk w4 (w.heap.size + 1 + 1) #[.int .u64 x, .int .u64 (hi (W)), .int .u64 (lo (W))] 46 := Blk.below (by (repeat' (first | (with_reducible assumption) | (with_reducible exact Blk.alloc_new _ _ _ (by first | rfl | (simp; done) | omega)) | (with_reducible refine Blk.drewN ?_ _) | (with_reducible refine Blk.drew ?_) | (with_reducible refine Blk.alloc_old ?_ _) | (with_reducible apply Blk.set_same) | (with_reducible refine Blk.set_other ?_ (by first | omega | (simp; done) | (simp; omega)) _) | (exact rfl)))) hb4 (by first | (simp; done) | omega | (simp; omega))
    have L4 : Blk w4 (w1.heap.size) #[.int .u64 X, .int .u64 (hi (Y)), .int .u64 (lo (Y)), .int .u64 M] 44 := Blk.below (by (repeat' (first | (with_reducible assumption) | (with_reducible exact Blk.alloc_new _ _ _ (by first | rfl | (simp; done) | omega)) | (with_reducible refine Blk.drewN ?_ _) | (with_reducible refine Blk.drew ?_) | (with_reducible refine Blk.alloc_old ?_ _) | (with_reducible apply Blk.set_same) | (with_reducible refine Blk.set_other ?_ (by first | omega | (simp; done) | (simp; omega)) _) | (exact rfl)))) hb4 (by first | (simp; done) | omega | (simp; omega))
    have g4 : Below w.heap.size w w4 := by refine Below.trans ?_ (hb4.mono ?_) <;> (repeat' (first | (with_reducible exact Below.refl _ _) | (with_reducible assumption) | (with_reducible refine below_drewN ?_ _) | (with_reducible refine Below.drew ?_) | (with_reducible refine Below.alloc ?_ ?_ _) | (with_reducible refine Below.setCell ?_ ?_ _) | go_size))
    have hz4 := hb4.size
    (try simp at hz4)
    clear hb4
    replace cA := A4.cell
    replace fA := A4.frozen
    replace zA := A4.size
    replace cB := B4.cell
    replace fB := B4.frozen
    replace zB := B4.size
    replace cQ := Q4.cell
    replace fQ := Q4.frozen
    replace zQ := Q4.size
    replace cL := L4.cell
    replace fL := L4.frozen
    replace zL := L4.size
    go_wp2_with fail
    refine (ten_true _).mono ?_
    rintro e w5 ⟨rfl, hb5⟩
    have g5 : Below w.heap.size w w5 := by refine Below.trans ?_ (hb5.mono ?_) <;> (repeat' (first | (with_reducible exact Below.refl _ _) | (with_reducible assumption) | (with_reducible refine below_drewN ?_ _) | (with_reducible refine Below.drew ?_) | (with_reducible refine Below.alloc ?_ ?_ _) | (with_reducible refine Below.setCell ?_ ?_ _) | go_size))
    have hz5 := hb5.size
    (try simp at hz5)
    clear hb5
    go_wp2
    go_ret
    exact ⟨rfl, by (repeat' (first | (with_reducible exact Below.refl _ _) | (with_reducible assumption) | (with_reducible refine below_drewN ?_ _) | (with_reducible refine Below.drew ?_) | (with_reducible refine Below.alloc ?_ ?_ _) | (with_reducible refine Below.setCell ?_ ?_ _) | go_size))⟩
set_option maxRecDepth 100000 in
set_option maxHeartbeats 2000000 in
theorem LL_at (Xa Ya Ma Xb Yb Mb x W X Y M z s p q c1 c2 c3 c4 t ta tb : Int) (w : World) (e0 : decide (68719476736 ≤ hi Ya) = false) (e1 : decide (68719476736 ≤ hi Yb) = false) (e2 : decide (68719476736 ≤ hi W) = false) (e3 : decide (68719476736 ≤ Ma) = false) (hXa : 0 ≤ Xa ∧ Xa ≤ 18446744073709551615) (hYa : In128 Ya) (hMa : 0 ≤ Ma ∧ Ma ≤ 18446744073709551615) (hXb : 0 ≤ Xb ∧ Xb ≤ 18446744073709551615) (hYb : In128 Yb)  (hx : 0 ≤ x ∧ x ≤ 18446744073709551615) (hW : In128 W) (hY : In128 Y) (hX : 0 ≤ X ∧ X ≤ 18446744073709551615) (hM : 0 ≤ M ∧ M ≤ 18446744073709551615)
    (hr : (lowB Xa Ya Ma Xb Yb Ma = true ∧ X = Xb ∧ Y = Yb ∧ M = Ma) ∨ (lowB Xa Ya Ma Xb Yb Ma = false ∧ X = Xa ∧ Y = Ya ∧ M = Ma)) (hna : decide (X = Xa ∧ Y = Ya ∧ M = Ma) = !true) (hnb : true = true → decide (X = Xb ∧ Y = Yb ∧ M = Ma) = true)
    (hz : z = max x (max Xa Xb)) (hs : la X Y M z = s) (hp : la Xa Ya Ma z = p) (hq : la Xb Yb Ma z = q) (s1 : In128 s) (p1 : In128 p) (q1 : In128 q) (hc1 : cmp s p = c1) (hc2 : cmp s q = c2) (k1 : decide (0 < c1) = false) (k2 : decide (0 < c2) = false) (hc3 : cmp W Ya = c3) (k3 : decide (c3 ≤ 0) = true) :
    Calls Try.prog 8 #[lv Xa Ya Ma, lv Xb Yb Mb, .agg #[.int .u64 x, .int .u64 (hi W), .int .u64 (lo W)]] w fun e w' => e = .returned (.bool true) ∧ Below w.heap.size w w' := by
  have Hhr := hide hr; have Hhs := hide hs; have Hhp := hide hp; have Hhq := hide hq; have Hhc1 := hide hc1; have Hhc2 := hide hc2; have Hhc3 := hide hc3; clear hr hs hp hq hc1 hc2 hc3
  have r1 := lneq X Y M Xa Ya Ma true hY hYa hna
  have r2 := lneq X Y M Xb Yb Ma false hY hYb (by rw [hnb rfl]; rfl)
  clear hna hnb
  have Hz := hide hz
  clear hz
  go_enter Try.func8, Try.ntmps8
  go_wp2_with fail
  refine (low_any Xa Ya Ma Xb Yb Ma X Y M _ hXa hYa hMa hXb hYb hMa Hhr.out).mono ?_
  rintro e w1 ⟨rfl, hb1⟩
  have A1 : Blk w1 (w.heap.size) #[.int .u64 Xa, .int .u64 (hi (Ya)), .int .u64 (lo (Ya)), .int .u64 Ma] 44 := Blk.below (by (repeat' (first | (with_reducible assumption) | (with_reducible exact Blk.alloc_new _ _ _ (by first | rfl | (simp; done) | omega)) | (with_reducible refine Blk.drewN ?_ _) | (with_reducible refine Blk.drew ?_) | (with_reducible refine Blk.alloc_old ?_ _) | (with_reducible apply Blk.set_same) | (with_reducible refine Blk.set_other ?_ (by first | omega | (simp; done) | (simp; omega)) _) | (exact rfl)))) hb1 (by first | (simp; done) | omega | (simp; omega))
  have B1 : Blk w1 (w.heap.size + 1) #[.int .u64 Xb, .int .u64 (hi (Yb)), .int .u64 (lo (Yb)), .int .u64 Ma] 44 := Blk.below (by (repeat' (first | (with_reducible assumption) | (with_reducible exact Blk.alloc_new _ _ _ (by first | rfl | (simp; done) | omega)) | (with_reducible refine Blk.drewN ?_ _) | (with_reducible refine Blk.drew ?_) | (with_reducible refine Blk.alloc_old ?_ _) | (with_reducible apply Blk.set_same) | (with_reducible refine Blk.set_other ?_ (by first | omega | (simp; done) | (simp; omega)) _) | (exact rfl)))) hb1 (by first | (simp; done) | omega | (simp; omega))
  have Q1 : Blk w1 (w.heap.size + 1 + 1) #[.int .u64 x, .int .u64 (hi (W)), .int .u64 (lo (W))] 46 := Blk.below (by (repeat' (first | (with_reducible assumption) | (with_reducible exact Blk.alloc_new _ _ _ (by first | rfl | (simp; done) | omega)) | (with_reducible refine Blk.drewN ?_ _) | (with_reducible refine Blk.drew ?_) | (with_reducible refine Blk.alloc_old ?_ _) | (with_reducible apply Blk.set_same) | (with_reducible refine Blk.set_other ?_ (by first | omega | (simp; done) | (simp; omega)) _) | (exact rfl)))) hb1 (by first | (simp; done) | omega | (simp; omega))
  have g1 : Below w.heap.size w w1 := by refine Below.trans ?_ (hb1.mono ?_) <;> (repeat' (first | (with_reducible exact Below.refl _ _) | (with_reducible assumption) | (with_reducible refine below_drewN ?_ _) | (with_reducible refine Below.drew ?_) | (with_reducible refine Below.alloc ?_ ?_ _) | (with_reducible refine Below.setCell ?_ ?_ _) | go_size))
  have hz1 := hb1.size
  (try simp at hz1)
  clear hb1
  replace cA := A1.cell
  replace fA := A1.frozen
  replace zA := A1.size
  replace cB := B1.cell
  replace fB := B1.frozen
  replace zB := B1.size
  replace cQ := Q1.cell
  replace fQ := Q1.frozen
  replace zQ := Q1.size
  go_upto_region 7 with (fail)
  go_cut [8] (fun p8 wx => p8 = .int .u64 z ∧ Below w.heap.size w wx ∧ Blk wx (w.heap.size) #[.int .u64 Xa, .int .u64 (hi (Ya)), .int .u64 (lo (Ya)), .int .u64 Ma] 44 ∧ Blk wx (w.heap.size + 1) #[.int .u64 Xb, .int .u64 (hi (Yb)), .int .u64 (lo (Yb)), .int .u64 Ma] 44 ∧ Blk wx (w.heap.size + 1 + 1) #[.int .u64 x, .int .u64 (hi (W)), .int .u64 (lo (W))] 46 ∧ Blk wx (w1.heap.size) #[.int .u64 X, .int .u64 (hi (Y)), .int .u64 (lo (Y)), .int .u64 M] 44)
  case first =>
    go_wp2_with fail
    all_goals
      go_meet
      refine ⟨?_, by (repeat' (first | (with_reducible exact Below.refl _ _) | (with_reducible assumption) | (with_reducible refine below_drewN ?_ _) | (with_reducible refine Below.drew ?_) | (with_reducible refine Below.alloc ?_ ?_ _) | (with_reducible refine Below.setCell ?_ ?_ _) | go_size)), by (repeat' (first | (with_reducible assumption) | (with_reducible exact Blk.alloc_new _ _ _ (by first | rfl | (simp; done) | omega)) | (with_reducible refine Blk.drewN ?_ _) | (with_reducible refine Blk.drew ?_) | (with_reducible refine Blk.alloc_old ?_ _) | (with_reducible apply Blk.set_same) | (with_reducible refine Blk.set_other ?_ (by first | omega | (simp; done) | (simp; omega)) _) | (exact rfl))), by (repeat' (first | (with_reducible assumption) | (with_reducible exact Blk.alloc_new _ _ _ (by first | rfl | (simp; done) | omega)) | (with_reducible refine Blk.drewN ?_ _) | (with_reducible refine Blk.drew ?_) | (with_reducible refine Blk.alloc_old ?_ _) | (with_reducible apply Blk.set_same) | (with_reducible refine Blk.set_other ?_ (by first | omega | (simp; done) | (simp; omega)) _) | (exact rfl))), by (repeat' (first | (with_reducible assumption) | (with_reducible exact Blk.alloc_new _ _ _ (by first | rfl | (simp; done) | omega)) | (with_reducible refine Blk.drewN ?_ _) | (with_reducible refine Blk.drew ?_) | (with_reducible refine Blk.alloc_old ?_ _) | (with_reducible apply Blk.set_same) | (with_reducible refine Blk.set_other ?_ (by first | omega | (simp; done) | (simp; omega)) _) | (exact rfl))), by (repeat' (first | (with_reducible assumption) | (with_reducible exact Blk.alloc_new _ _ _ (by first | rfl | (simp; done) | omega)) | (with_reducible refine Blk.drewN ?_ _) | (with_reducible refine Blk.drew ?_) | (with_reducible refine Blk.alloc_old ?_ _) | (with_reducible apply Blk.set_same) | (with_reducible refine Blk.set_other ?_ (by first | omega | (simp; done) | (simp; omega)) _) | (exact rfl)))⟩
      have := Hz.out
      first | rfl | (exact congrArg (Value.int .u64) (by omega))
  case rest =>
    obtain ⟨rfl, g2, A2, B2, Q2, L2⟩ := hcut
    have hz2 := g2.size
    have zrng : 0 ≤ z ∧ z ≤ 18446744073709551615 := by have := Hz.out; omega
    clear cA fA zA cB fB zB cQ fQ zQ A1 B1 Q1
    have zL0 := L2.size
    have cA := A2.cell; have fA := A2.frozen; have zA := A2.size
    have cB := B2.cell; have fB := B2.frozen; have zB := B2.size
    have cQ := Q2.cell; have fQ := Q2.frozen; have zQ := Q2.size
    have cL := L2.cell; have fL := L2.frozen; have zL := L2.size
    go_wp2_with fail
    refine wp_forget (fun v => Below w.heap.size w v ∧ Blk v (w.heap.size) #[.int .u64 Xa, .int .u64 (hi (Ya)), .int .u64 (lo (Ya)), .int .u64 Ma] 44 ∧ Blk v (w.heap.size + 1) #[.int .u64 Xb, .int .u64 (hi (Yb)), .int .u64 (lo (Yb)), .int .u64 Ma] 44 ∧ Blk v (w.heap.size + 1 + 1) #[.int .u64 x, .int .u64 (hi (W)), .int .u64 (lo (W))] 46 ∧ Blk v (w1.heap.size) #[.int .u64 X, .int .u64 (hi (Y)), .int .u64 (lo (Y)), .int .u64 M] 44) ⟨by (repeat' (first | (with_reducible exact Below.refl _ _) | (with_reducible assumption) | (with_reducible refine below_drewN ?_ _) | (with_reducible refine Below.drew ?_) | (with_reducible refine Below.alloc ?_ ?_ _) | (with_reducible refine Below.setCell ?_ ?_ _) | go_size)), by (repeat' (first | (with_reducible assumption) | (with_reducible exact Blk.alloc_new _ _ _ (by first | rfl | (simp; done) | omega)) | (with_reducible refine Blk.drewN ?_ _) | (with_reducible refine Blk.drew ?_) | (with_reducible refine Blk.alloc_old ?_ _) | (with_reducible apply Blk.set_same) | (with_reducible refine Blk.set_other ?_ (by first | omega | (simp; done) | (simp; omega)) _) | (exact rfl))), by (repeat' (first | (with_reducible assumption) | (with_reducible exact Blk.alloc_new _ _ _ (by first | rfl | (simp; done) | omega)) | (with_reducible refine Blk.drewN ?_ _) | (with_reducible refine Blk.drew ?_) | (with_reducible refine Blk.alloc_old ?_ _) | (with_reducible apply Blk.set_same) | (with_reducible refine Blk.set_other ?_ (by first | omega | (simp; done) | (simp; omega)) _) | (exact rfl))), by (repeat' (first | (with_reducible assumption) | (with_reducible exact Blk.alloc_new _ _ _ (by first | rfl | (simp; done) | omega)) | (with_reducible refine Blk.drewN ?_ _) | (with_reducible refine Blk.drew ?_) | (with_reducible refine Blk.alloc_old ?_ _) | (with_reducible apply Blk.set_same) | (with_reducible refine Blk.set_other ?_ (by first | omega | (simp; done) | (simp; omega)) _) | (exact rfl))), by (repeat' (first | (with_reducible assumption) | (with_reducible exact Blk.alloc_new _ _ _ (by first | rfl | (simp; done) | omega)) | (with_reducible refine Blk.drewN ?_ _) | (with_reducible refine Blk.drew ?_) | (with_reducible refine Blk.alloc_old ?_ _) | (with_reducible apply Blk.set_same) | (with_reducible refine Blk.set_other ?_ (by first | omega | (simp; done) | (simp; omega)) _) | (exact rfl)))⟩ ?_
    rintro v3 ⟨gv3, Av3, Bv3, Qv3, Lv3⟩
    have qA3 := blk_calm Av3
    have qB3 := blk_calm Bv3
    have qQ3 := blk_calm Qv3
    have qL3 := blk_calm Lv3
    refine wp_region_quiet_below (by kernel_rfl) (by kernel_rfl) ?_
    repeat (go_big_quiet_step ((first
        | (go_at_call 26; (with_reducible exact Calls.regrown_of (lat X Y M z s _ hX hY hM zrng Hhs.out)))
        | (go_at_call 26; (with_reducible exact Calls.regrown_of (lat Xa Ya Ma z p _ hXa hYa hMa zrng Hhp.out)))
        | (go_at_call 26; (with_reducible exact Calls.regrown_of (lat Xb Yb Ma z q _ hXb hYb hMa zrng Hhq.out)))
        | (go_at_call 34; (with_reducible exact Calls.regrown_of (wcmpC s p c1 _ s1 p1 Hhc1.out)))
        | (go_at_call 34; (with_reducible exact Calls.regrown_of (wcmpC s q c2 _ s1 q1 Hhc2.out))))))
    refine wpQuiet_nil ?_
    intro _ hw'
    obtain ⟨pq, hw''⟩ := hw'
    subst hw''
    have hb3 := below_regrown v3 pq.d pq.os
    generalize Sort.grow (redrawn v3 pq.d) pq.os = w3 at *
    have A3 : Blk w3 (w.heap.size) #[.int .u64 Xa, .int .u64 (hi (Ya)), .int .u64 (lo (Ya)), .int .u64 Ma] 44 := Blk.below Av3 hb3 Av3.size
    have B3 : Blk w3 (w.heap.size + 1) #[.int .u64 Xb, .int .u64 (hi (Yb)), .int .u64 (lo (Yb)), .int .u64 Ma] 44 := Blk.below Bv3 hb3 Bv3.size
    have Q3 : Blk w3 (w.heap.size + 1 + 1) #[.int .u64 x, .int .u64 (hi (W)), .int .u64 (lo (W))] 46 := Blk.below Qv3 hb3 Qv3.size
    have L3 : Blk w3 (w1.heap.size) #[.int .u64 X, .int .u64 (hi (Y)), .int .u64 (lo (Y)), .int .u64 M] 44 := Blk.below Lv3 hb3 Lv3.size
    have g3 : Below w.heap.size w w3 := gv3.trans (hb3.mono gv3.size)
    have hz3 : w.heap.size ≤ w3.heap.size := g3.size
    clear hb3 gv3 Av3 qA3 Bv3 qB3 Qv3 qQ3 Lv3 qL3
    replace cA := A3.cell
    replace fA := A3.frozen
    replace zA := A3.size
    replace cB := B3.cell
    replace fB := B3.frozen
    replace zB := B3.size
    replace cQ := Q3.cell
    replace fQ := Q3.frozen
    replace zQ := Q3.size
    replace cL := L3.cell
    replace fL := L3.frozen
    replace zL := L3.size
    go_wp2_with fail
    refine (wcmpC W Ya c3 _ hW hYa Hhc3.out).mono ?_
    rintro e w4 ⟨rfl, hb4⟩
    have A4 : Blk w4 (w.heap.size) #[.int .u64 Xa, .int .u64 (hi (Ya)), .int .u64 (lo (Ya)), .int .u64 Ma] 44 := Blk.below (by (repeat' (first | (with_reducible assumption) | (with_reducible exact Blk.alloc_new _ _ _ (by first | rfl | (simp; done) | omega)) | (with_reducible refine Blk.drewN ?_ _) | (with_reducible refine Blk.drew ?_) | (with_reducible refine Blk.alloc_old ?_ _) | (with_reducible apply Blk.set_same) | (with_reducible refine Blk.set_other ?_ (by first | omega | (simp; done) | (simp; omega)) _) | (exact rfl)))) hb4 (by first | (simp; done) | omega | (simp; omega))
    have B4 : Blk w4 (w.heap.size + 1) #[.int .u64 Xb, .int .u64 (hi (Yb)), .int .u64 (lo (Yb)), .int .u64 Ma] 44 := Blk.below (by (repeat' (first | (with_reducible assumption) | (with_reducible exact Blk.alloc_new _ _ _ (by first | rfl | (simp; done) | omega)) | (with_reducible refine Blk.drewN ?_ _) | (with_reducible refine Blk.drew ?_) | (with_reducible refine Blk.alloc_old ?_ _) | (with_reducible apply Blk.set_same) | (with_reducible refine Blk.set_other ?_ (by first | omega | (simp; done) | (simp; omega)) _) | (exact rfl)))) hb4 (by first | (simp; done) | omega | (simp; omega))
    have Q4 : Blk w4 (w.heap.size + 1 + 1) #[.int .u64 x, .int .u64 (hi (W)), .int .u64 (lo (W))] 46 := Blk.below (by (repeat' (first | (with_reducible assumption) | (with_reducible exact Blk.alloc_new _ _ _ (by first | rfl | (simp; done) | omega)) | (with_reducible refine Blk.drewN ?_ _) | (with_reducible refine Blk.drew ?_) | (with_reducible refine Blk.alloc_old ?_ _) | (with_reducible apply Blk.set_same) | (with_reducible refine Blk.set_other ?_ (by first | omega | (simp; done) | (simp; omega)) _) | (exact rfl)))) hb4 (by first | (simp; done) | omega | (simp; omega))
    have L4 : Blk w4 (w1.heap.size) #[.int .u64 X, .int .u64 (hi (Y)), .int .u64 (lo (Y)), .int .u64 M] 44 := Blk.below (by (repeat' (first | (with_reducible assumption) | (with_reducible exact Blk.alloc_new _ _ _ (by first | rfl | (simp; done) | omega)) | (with_reducible refine Blk.drewN ?_ _) | (with_reducible refine Blk.drew ?_) | (with_reducible refine Blk.alloc_old ?_ _) | (with_reducible apply Blk.set_same) | (with_reducible refine Blk.set_other ?_ (by first | omega | (simp; done) | (simp; omega)) _) | (exact rfl)))) hb4 (by first | (simp; done) | omega | (simp; omega))
    have g4 : Below w.heap.size w w4 := by refine Below.trans ?_ (hb4.mono ?_) <;> (repeat' (first | (with_reducible exact Below.refl _ _) | (with_reducible assumption) | (with_reducible refine below_drewN ?_ _) | (with_reducible refine Below.drew ?_) | (with_reducible refine Below.alloc ?_ ?_ _) | (with_reducible refine Below.setCell ?_ ?_ _) | go_size))
    have hz4 := hb4.size
    (try simp at hz4)
    clear hb4
    replace cA := A4.cell
    replace fA := A4.frozen
    replace zA := A4.size
    replace cB := B4.cell
    replace fB := B4.frozen
    replace zB := B4.size
    replace cQ := Q4.cell
    replace fQ := Q4.frozen
    replace zQ := Q4.size
    replace cL := L4.cell
    replace fL := L4.frozen
    replace zL := L4.size
    go_wp2_with fail
    refine (ten_true _).mono ?_
    rintro e w5 ⟨rfl, hb5⟩
    have g5 : Below w.heap.size w w5 := by refine Below.trans ?_ (hb5.mono ?_) <;> (repeat' (first | (with_reducible exact Below.refl _ _) | (with_reducible assumption) | (with_reducible refine below_drewN ?_ _) | (with_reducible refine Below.drew ?_) | (with_reducible refine Below.alloc ?_ ?_ _) | (with_reducible refine Below.setCell ?_ ?_ _) | go_size))
    have hz5 := hb5.size
    (try simp at hz5)
    clear hb5
    go_wp2
    go_ret
    exact ⟨rfl, by (repeat' (first | (with_reducible exact Below.refl _ _) | (with_reducible assumption) | (with_reducible refine below_drewN ?_ _) | (with_reducible refine Below.drew ?_) | (with_reducible refine Below.alloc ?_ ?_ _) | (with_reducible refine Below.setCell ?_ ?_ _) | go_size))⟩
set_option maxRecDepth 100000 in
set_option maxHeartbeats 2000000 in
theorem LL_bf (Xa Ya Ma Xb Yb Mb x W X Y M z s p q c1 c2 c3 c4 t ta tb : Int) (w : World) (e0 : decide (68719476736 ≤ hi Ya) = false) (e1 : decide (68719476736 ≤ hi Yb) = false) (e2 : decide (68719476736 ≤ hi W) = false) (e3 : decide (68719476736 ≤ Ma) = false) (hXa : 0 ≤ Xa ∧ Xa ≤ 18446744073709551615) (hYa : In128 Ya) (hMa : 0 ≤ Ma ∧ Ma ≤ 18446744073709551615) (hXb : 0 ≤ Xb ∧ Xb ≤ 18446744073709551615) (hYb : In128 Yb)  (hx : 0 ≤ x ∧ x ≤ 18446744073709551615) (hW : In128 W) (hY : In128 Y) (hX : 0 ≤ X ∧ X ≤ 18446744073709551615) (hM : 0 ≤ M ∧ M ≤ 18446744073709551615)
    (hr : (lowB Xa Ya Ma Xb Yb Ma = true ∧ X = Xb ∧ Y = Yb ∧ M = Ma) ∨ (lowB Xa Ya Ma Xb Yb Ma = false ∧ X = Xa ∧ Y = Ya ∧ M = Ma)) (hna : decide (X = Xa ∧ Y = Ya ∧ M = Ma) = !false) (hnb : false = true → decide (X = Xb ∧ Y = Yb ∧ M = Ma) = true)
    (hz : z = max x (max Xa Xb)) (hs : la X Y M z = s) (hp : la Xa Ya Ma z = p) (hq : la Xb Yb Ma z = q) (s1 : In128 s) (p1 : In128 p) (q1 : In128 q) (hc1 : cmp s p = c1) (hc2 : cmp s q = c2) (k1 : decide (0 < c1) = false) (k2 : decide (0 < c2) = false) (hc3 : cmp W Ya = c3) (k3 : decide (c3 ≤ 0) = false) (hc4 : cmp W Yb = c4) (k4 : decide (c4 ≤ 0) = true) :
    Calls Try.prog 8 #[lv Xa Ya Ma, lv Xb Yb Mb, .agg #[.int .u64 x, .int .u64 (hi W), .int .u64 (lo W)]] w fun e w' => e = .returned (.bool true) ∧ Below w.heap.size w w' := by
  have Hhr := hide hr; have Hhs := hide hs; have Hhp := hide hp; have Hhq := hide hq; have Hhc1 := hide hc1; have Hhc2 := hide hc2; have Hhc3 := hide hc3; have Hhc4 := hide hc4; clear hr hs hp hq hc1 hc2 hc3 hc4
  have r1 := lneq X Y M Xa Ya Ma false hY hYa hna
  clear hna hnb
  have Hz := hide hz
  clear hz
  go_enter Try.func8, Try.ntmps8
  go_wp2_with fail
  refine (low_any Xa Ya Ma Xb Yb Ma X Y M _ hXa hYa hMa hXb hYb hMa Hhr.out).mono ?_
  rintro e w1 ⟨rfl, hb1⟩
  have A1 : Blk w1 (w.heap.size) #[.int .u64 Xa, .int .u64 (hi (Ya)), .int .u64 (lo (Ya)), .int .u64 Ma] 44 := Blk.below (by (repeat' (first | (with_reducible assumption) | (with_reducible exact Blk.alloc_new _ _ _ (by first | rfl | (simp; done) | omega)) | (with_reducible refine Blk.drewN ?_ _) | (with_reducible refine Blk.drew ?_) | (with_reducible refine Blk.alloc_old ?_ _) | (with_reducible apply Blk.set_same) | (with_reducible refine Blk.set_other ?_ (by first | omega | (simp; done) | (simp; omega)) _) | (exact rfl)))) hb1 (by first | (simp; done) | omega | (simp; omega))
  have B1 : Blk w1 (w.heap.size + 1) #[.int .u64 Xb, .int .u64 (hi (Yb)), .int .u64 (lo (Yb)), .int .u64 Ma] 44 := Blk.below (by (repeat' (first | (with_reducible assumption) | (with_reducible exact Blk.alloc_new _ _ _ (by first | rfl | (simp; done) | omega)) | (with_reducible refine Blk.drewN ?_ _) | (with_reducible refine Blk.drew ?_) | (with_reducible refine Blk.alloc_old ?_ _) | (with_reducible apply Blk.set_same) | (with_reducible refine Blk.set_other ?_ (by first | omega | (simp; done) | (simp; omega)) _) | (exact rfl)))) hb1 (by first | (simp; done) | omega | (simp; omega))
  have Q1 : Blk w1 (w.heap.size + 1 + 1) #[.int .u64 x, .int .u64 (hi (W)), .int .u64 (lo (W))] 46 := Blk.below (by (repeat' (first | (with_reducible assumption) | (with_reducible exact Blk.alloc_new _ _ _ (by first | rfl | (simp; done) | omega)) | (with_reducible refine Blk.drewN ?_ _) | (with_reducible refine Blk.drew ?_) | (with_reducible refine Blk.alloc_old ?_ _) | (with_reducible apply Blk.set_same) | (with_reducible refine Blk.set_other ?_ (by first | omega | (simp; done) | (simp; omega)) _) | (exact rfl)))) hb1 (by first | (simp; done) | omega | (simp; omega))
  have g1 : Below w.heap.size w w1 := by refine Below.trans ?_ (hb1.mono ?_) <;> (repeat' (first | (with_reducible exact Below.refl _ _) | (with_reducible assumption) | (with_reducible refine below_drewN ?_ _) | (with_reducible refine Below.drew ?_) | (with_reducible refine Below.alloc ?_ ?_ _) | (with_reducible refine Below.setCell ?_ ?_ _) | go_size))
  have hz1 := hb1.size
  (try simp at hz1)
  clear hb1
  replace cA := A1.cell
  replace fA := A1.frozen
  replace zA := A1.size
  replace cB := B1.cell
  replace fB := B1.frozen
  replace zB := B1.size
  replace cQ := Q1.cell
  replace fQ := Q1.frozen
  replace zQ := Q1.size
  go_upto_region 7 with (fail)
  go_cut [8] (fun p8 wx => p8 = .int .u64 z ∧ Below w.heap.size w wx ∧ Blk wx (w.heap.size) #[.int .u64 Xa, .int .u64 (hi (Ya)), .int .u64 (lo (Ya)), .int .u64 Ma] 44 ∧ Blk wx (w.heap.size + 1) #[.int .u64 Xb, .int .u64 (hi (Yb)), .int .u64 (lo (Yb)), .int .u64 Ma] 44 ∧ Blk wx (w.heap.size + 1 + 1) #[.int .u64 x, .int .u64 (hi (W)), .int .u64 (lo (W))] 46 ∧ Blk wx (w1.heap.size) #[.int .u64 X, .int .u64 (hi (Y)), .int .u64 (lo (Y)), .int .u64 M] 44)
  case first =>
    go_wp2_with fail
    all_goals
      go_meet
      refine ⟨?_, by (repeat' (first | (with_reducible exact Below.refl _ _) | (with_reducible assumption) | (with_reducible refine below_drewN ?_ _) | (with_reducible refine Below.drew ?_) | (with_reducible refine Below.alloc ?_ ?_ _) | (with_reducible refine Below.setCell ?_ ?_ _) | go_size)), by (repeat' (first | (with_reducible assumption) | (with_reducible exact Blk.alloc_new _ _ _ (by first | rfl | (simp; done) | omega)) | (with_reducible refine Blk.drewN ?_ _) | (with_reducible refine Blk.drew ?_) | (with_reducible refine Blk.alloc_old ?_ _) | (with_reducible apply Blk.set_same) | (with_reducible refine Blk.set_other ?_ (by first | omega | (simp; done) | (simp; omega)) _) | (exact rfl))), by (repeat' (first | (with_reducible assumption) | (with_reducible exact Blk.alloc_new _ _ _ (by first | rfl | (simp; done) | omega)) | (with_reducible refine Blk.drewN ?_ _) | (with_reducible refine Blk.drew ?_) | (with_reducible refine Blk.alloc_old ?_ _) | (with_reducible apply Blk.set_same) | (with_reducible refine Blk.set_other ?_ (by first | omega | (simp; done) | (simp; omega)) _) | (exact rfl))), by (repeat' (first | (with_reducible assumption) | (with_reducible exact Blk.alloc_new _ _ _ (by first | rfl | (simp; done) | omega)) | (with_reducible refine Blk.drewN ?_ _) | (with_reducible refine Blk.drew ?_) | (with_reducible refine Blk.alloc_old ?_ _) | (with_reducible apply Blk.set_same) | (with_reducible refine Blk.set_other ?_ (by first | omega | (simp; done) | (simp; omega)) _) | (exact rfl))), by (repeat' (first | (with_reducible assumption) | (with_reducible exact Blk.alloc_new _ _ _ (by first | rfl | (simp; done) | omega)) | (with_reducible refine Blk.drewN ?_ _) | (with_reducible refine Blk.drew ?_) | (with_reducible refine Blk.alloc_old ?_ _) | (with_reducible apply Blk.set_same) | (with_reducible refine Blk.set_other ?_ (by first | omega | (simp; done) | (simp; omega)) _) | (exact rfl)))⟩
      have := Hz.out
      first | rfl | (exact congrArg (Value.int .u64) (by omega))
  case rest =>
    obtain ⟨rfl, g2, A2, B2, Q2, L2⟩ := hcut
    have hz2 := g2.size
    have zrng : 0 ≤ z ∧ z ≤ 18446744073709551615 := by have := Hz.out; omega
    clear cA fA zA cB fB zB cQ fQ zQ A1 B1 Q1
    have zL0 := L2.size
    have cA := A2.cell; have fA := A2.frozen; have zA := A2.size
    have cB := B2.cell; have fB := B2.frozen; have zB := B2.size
    have cQ := Q2.cell; have fQ := Q2.frozen; have zQ := Q2.size
    have cL := L2.cell; have fL := L2.frozen; have zL := L2.size
    go_wp2_with fail
    refine wp_forget (fun v => Below w.heap.size w v ∧ Blk v (w.heap.size) #[.int .u64 Xa, .int .u64 (hi (Ya)), .int .u64 (lo (Ya)), .int .u64 Ma] 44 ∧ Blk v (w.heap.size + 1) #[.int .u64 Xb, .int .u64 (hi (Yb)), .int .u64 (lo (Yb)), .int .u64 Ma] 44 ∧ Blk v (w.heap.size + 1 + 1) #[.int .u64 x, .int .u64 (hi (W)), .int .u64 (lo (W))] 46 ∧ Blk v (w1.heap.size) #[.int .u64 X, .int .u64 (hi (Y)), .int .u64 (lo (Y)), .int .u64 M] 44) ⟨by (repeat' (first | (with_reducible exact Below.refl _ _) | (with_reducible assumption) | (with_reducible refine below_drewN ?_ _) | (with_reducible refine Below.drew ?_) | (with_reducible refine Below.alloc ?_ ?_ _) | (with_reducible refine Below.setCell ?_ ?_ _) | go_size)), by (repeat' (first | (with_reducible assumption) | (with_reducible exact Blk.alloc_new _ _ _ (by first | rfl | (simp; done) | omega)) | (with_reducible refine Blk.drewN ?_ _) | (with_reducible refine Blk.drew ?_) | (with_reducible refine Blk.alloc_old ?_ _) | (with_reducible apply Blk.set_same) | (with_reducible refine Blk.set_other ?_ (by first | omega | (simp; done) | (simp; omega)) _) | (exact rfl))), by (repeat' (first | (with_reducible assumption) | (with_reducible exact Blk.alloc_new _ _ _ (by first | rfl | (simp; done) | omega)) | (with_reducible refine Blk.drewN ?_ _) | (with_reducible refine Blk.drew ?_) | (with_reducible refine Blk.alloc_old ?_ _) | (with_reducible apply Blk.set_same) | (with_reducible refine Blk.set_other ?_ (by first | omega | (simp; done) | (simp; omega)) _) | (exact rfl))), by (repeat' (first | (with_reducible assumption) | (with_reducible exact Blk.alloc_new _ _ _ (by first | rfl | (simp; done) | omega)) | (with_reducible refine Blk.drewN ?_ _) | (with_reducible refine Blk.drew ?_) | (with_reducible refine Blk.alloc_old ?_ _) | (with_reducible apply Blk.set_same) | (with_reducible refine Blk.set_other ?_ (by first | omega | (simp; done) | (simp; omega)) _) | (exact rfl))), by (repeat' (first | (with_reducible assumption) | (with_reducible exact Blk.alloc_new _ _ _ (by first | rfl | (simp; done) | omega)) | (with_reducible refine Blk.drewN ?_ _) | (with_reducible refine Blk.drew ?_) | (with_reducible refine Blk.alloc_old ?_ _) | (with_reducible apply Blk.set_same) | (with_reducible refine Blk.set_other ?_ (by first | omega | (simp; done) | (simp; omega)) _) | (exact rfl)))⟩ ?_
    rintro v3 ⟨gv3, Av3, Bv3, Qv3, Lv3⟩
    have qA3 := blk_calm Av3
    have qB3 := blk_calm Bv3
    have qQ3 := blk_calm Qv3
    have qL3 := blk_calm Lv3
    refine wp_region_quiet_below (by kernel_rfl) (by kernel_rfl) ?_
    repeat (go_big_quiet_step ((first
        | (go_at_call 26; (with_reducible exact Calls.regrown_of (lat X Y M z s _ hX hY hM zrng Hhs.out)))
        | (go_at_call 26; (with_reducible exact Calls.regrown_of (lat Xa Ya Ma z p _ hXa hYa hMa zrng Hhp.out)))
        | (go_at_call 26; (with_reducible exact Calls.regrown_of (lat Xb Yb Ma z q _ hXb hYb hMa zrng Hhq.out)))
        | (go_at_call 34; (with_reducible exact Calls.regrown_of (wcmpC s p c1 _ s1 p1 Hhc1.out)))
        | (go_at_call 34; (with_reducible exact Calls.regrown_of (wcmpC s q c2 _ s1 q1 Hhc2.out))))))
    refine wpQuiet_nil ?_
    intro _ hw'
    obtain ⟨pq, hw''⟩ := hw'
    subst hw''
    have hb3 := below_regrown v3 pq.d pq.os
    generalize Sort.grow (redrawn v3 pq.d) pq.os = w3 at *
    have A3 : Blk w3 (w.heap.size) #[.int .u64 Xa, .int .u64 (hi (Ya)), .int .u64 (lo (Ya)), .int .u64 Ma] 44 := Blk.below Av3 hb3 Av3.size
    have B3 : Blk w3 (w.heap.size + 1) #[.int .u64 Xb, .int .u64 (hi (Yb)), .int .u64 (lo (Yb)), .int .u64 Ma] 44 := Blk.below Bv3 hb3 Bv3.size
    have Q3 : Blk w3 (w.heap.size + 1 + 1) #[.int .u64 x, .int .u64 (hi (W)), .int .u64 (lo (W))] 46 := Blk.below Qv3 hb3 Qv3.size
    have L3 : Blk w3 (w1.heap.size) #[.int .u64 X, .int .u64 (hi (Y)), .int .u64 (lo (Y)), .int .u64 M] 44 := Blk.below Lv3 hb3 Lv3.size
    have g3 : Below w.heap.size w w3 := gv3.trans (hb3.mono gv3.size)
    have hz3 : w.heap.size ≤ w3.heap.size := g3.size
    clear hb3 gv3 Av3 qA3 Bv3 qB3 Qv3 qQ3 Lv3 qL3
    replace cA := A3.cell
    replace fA := A3.frozen
    replace zA := A3.size
    replace cB := B3.cell
    replace fB := B3.frozen
    replace zB := B3.size
    replace cQ := Q3.cell
    replace fQ := Q3.frozen
    replace zQ := Q3.size
    replace cL := L3.cell
    replace fL := L3.frozen
    replace zL := L3.size
    go_wp2_with fail
    refine (wcmpC W Ya c3 _ hW hYa Hhc3.out).mono ?_
    rintro e w4 ⟨rfl, hb4⟩
    have A4 : Blk w4 (w.heap.size) #[.int .u64 Xa, .int .u64 (hi (Ya)), .int .u64 (lo (Ya)), .int .u64 Ma] 44 := Blk.below (by (repeat' (first | (with_reducible assumption) | (with_reducible exact Blk.alloc_new _ _ _ (by first | rfl | (simp; done) | omega)) | (with_reducible refine Blk.drewN ?_ _) | (with_reducible refine Blk.drew ?_) | (with_reducible refine Blk.alloc_old ?_ _) | (with_reducible apply Blk.set_same) | (with_reducible refine Blk.set_other ?_ (by first | omega | (simp; done) | (simp; omega)) _) | (exact rfl)))) hb4 (by first | (simp; done) | omega | (simp; omega))
    have B4 : Blk w4 (w.heap.size + 1) #[.int .u64 Xb, .int .u64 (hi (Yb)), .int .u64 (lo (Yb)), .int .u64 Ma] 44 := Blk.below (by (repeat' (first | (with_reducible assumption) | (with_reducible exact Blk.alloc_new _ _ _ (by first | rfl | (simp; done) | omega)) | (with_reducible refine Blk.drewN ?_ _) | (with_reducible refine Blk.drew ?_) | (with_reducible refine Blk.alloc_old ?_ _) | (with_reducible apply Blk.set_same) | (with_reducible refine Blk.set_other ?_ (by first | omega | (simp; done) | (simp; omega)) _) | (exact rfl)))) hb4 (by first | (simp; done) | omega | (simp; omega))
    have Q4 : Blk w4 (w.heap.size + 1 + 1) #[.int .u64 x, .int .u64 (hi (W)), .int .u64 (lo (W))] 46 := Blk.below (by (repeat' (first | (with_reducible assumption) | (with_reducible exact Blk.alloc_new _ _ _ (by first | rfl | (simp; done) | omega)) | (with_reducible refine Blk.drewN ?_ _) | (with_reducible refine Blk.drew ?_) | (with_reducible refine Blk.alloc_old ?_ _) | (with_reducible apply Blk.set_same) | (with_reducible refine Blk.set_other ?_ (by first | omega | (simp; done) | (simp; omega)) _) | (exact rfl)))) hb4 (by first | (simp; done) | omega | (simp; omega))
    have L4 : Blk w4 (w1.heap.size) #[.int .u64 X, .int .u64 (hi (Y)), .int .u64 (lo (Y)), .int .u64 M] 44 := Blk.below (by (repeat' (first | (with_reducible assumption) | (with_reducible exact Blk.alloc_new _ _ _ (by first | rfl | (simp; done) | omega)) | (with_reducible refine Blk.drewN ?_ _) | (with_reducible refine Blk.drew ?_) | (with_reducible refine Blk.alloc_old ?_ _) | (with_reducible apply Blk.set_same) | (with_reducible refine Blk.set_other ?_ (by first | omega | (simp; done) | (simp; omega)) _) | (exact rfl)))) hb4 (by first | (simp; done) | omega | (simp; omega))
    have g4 : Below w.heap.size w w4 := by refine Below.trans ?_ (hb4.mono ?_) <;> (repeat' (first | (with_reducible exact Below.refl _ _) | (with_reducible assumption) | (with_reducible refine below_drewN ?_ _) | (with_reducible refine Below.drew ?_) | (with_reducible refine Below.alloc ?_ ?_ _) | (with_reducible refine Below.setCell ?_ ?_ _) | go_size))
    have hz4 := hb4.size
    (try simp at hz4)
    clear hb4
    replace cA := A4.cell
    replace fA := A4.frozen
    replace zA := A4.size
    replace cB := B4.cell
    replace fB := B4.frozen
    replace zB := B4.size
    replace cQ := Q4.cell
    replace fQ := Q4.frozen
    replace zQ := Q4.size
    replace cL := L4.cell
    replace fL := L4.frozen
    replace zL := L4.size
    go_wp2_with fail
    refine (wcmpC W Yb c4 _ hW hYb Hhc4.out).mono ?_
    rintro e w5 ⟨rfl, hb5⟩
    have A5 : Blk w5 (w.heap.size) #[.int .u64 Xa, .int .u64 (hi (Ya)), .int .u64 (lo (Ya)), .int .u64 Ma] 44 := Blk.below (by (repeat' (first | (with_reducible assumption) | (with_reducible exact Blk.alloc_new _ _ _ (by first | rfl | (simp; done) | omega)) | (with_reducible refine Blk.drewN ?_ _) | (with_reducible refine Blk.drew ?_) | (with_reducible refine Blk.alloc_old ?_ _) | (with_reducible apply Blk.set_same) | (with_reducible refine Blk.set_other ?_ (by first | omega | (simp; done) | (simp; omega)) _) | (exact rfl)))) hb5 (by first | (simp; done) | omega | (simp; omega))
    have B5 : Blk w5 (w.heap.size + 1) #[.int .u64 Xb, .int .u64 (hi (Yb)), .int .u64 (lo (Yb)), .int .u64 Ma] 44 := Blk.below (by (repeat' (first | (with_reducible assumption) | (with_reducible exact Blk.alloc_new _ _ _ (by first | rfl | (simp; done) | omega)) | (with_reducible refine Blk.drewN ?_ _) | (with_reducible refine Blk.drew ?_) | (with_reducible refine Blk.alloc_old ?_ _) | (with_reducible apply Blk.set_same) | (with_reducible refine Blk.set_other ?_ (by first | omega | (simp; done) | (simp; omega)) _) | (exact rfl)))) hb5 (by first | (simp; done) | omega | (simp; omega))
    have Q5 : Blk w5 (w.heap.size + 1 + 1) #[.int .u64 x, .int .u64 (hi (W)), .int .u64 (lo (W))] 46 := Blk.below (by (repeat' (first | (with_reducible assumption) | (with_reducible exact Blk.alloc_new _ _ _ (by first | rfl | (simp; done) | omega)) | (with_reducible refine Blk.drewN ?_ _) | (with_reducible refine Blk.drew ?_) | (with_reducible refine Blk.alloc_old ?_ _) | (with_reducible apply Blk.set_same) | (with_reducible refine Blk.set_other ?_ (by first | omega | (simp; done) | (simp; omega)) _) | (exact rfl)))) hb5 (by first | (simp; done) | omega | (simp; omega))
    have L5 : Blk w5 (w1.heap.size) #[.int .u64 X, .int .u64 (hi (Y)), .int .u64 (lo (Y)), .int .u64 M] 44 := Blk.below (by (repeat' (first | (with_reducible assumption) | (with_reducible exact Blk.alloc_new _ _ _ (by first | rfl | (simp; done) | omega)) | (with_reducible refine Blk.drewN ?_ _) | (with_reducible refine Blk.drew ?_) | (with_reducible refine Blk.alloc_old ?_ _) | (with_reducible apply Blk.set_same) | (with_reducible refine Blk.set_other ?_ (by first | omega | (simp; done) | (simp; omega)) _) | (exact rfl)))) hb5 (by first | (simp; done) | omega | (simp; omega))
    have g5 : Below w.heap.size w w5 := by refine Below.trans ?_ (hb5.mono ?_) <;> (repeat' (first | (with_reducible exact Below.refl _ _) | (with_reducible assumption) | (with_reducible refine below_drewN ?_ _) | (with_reducible refine Below.drew ?_) | (with_reducible refine Below.alloc ?_ ?_ _) | (with_reducible refine Below.setCell ?_ ?_ _) | go_size))
    have hz5 := hb5.size
    (try simp at hz5)
    clear hb5
    replace cA := A5.cell
    replace fA := A5.frozen
    replace zA := A5.size
    replace cB := B5.cell
    replace fB := B5.frozen
    replace zB := B5.size
    replace cQ := Q5.cell
    replace fQ := Q5.frozen
    replace zQ := Q5.size
    replace cL := L5.cell
    replace fL := L5.frozen
    replace zL := L5.size
    go_wp2_with fail
    refine (ten_true _).mono ?_
    rintro e w6 ⟨rfl, hb6⟩
    have g6 : Below w.heap.size w w6 := by refine Below.trans ?_ (hb6.mono ?_) <;> (repeat' (first | (with_reducible exact Below.refl _ _) | (with_reducible assumption) | (with_reducible refine below_drewN ?_ _) | (with_reducible refine Below.drew ?_) | (with_reducible refine Below.alloc ?_ ?_ _) | (with_reducible refine Below.setCell ?_ ?_ _) | go_size))
    have hz6 := hb6.size
    (try simp at hz6)
    clear hb6
    go_wp2
    go_ret
    exact ⟨rfl, by (repeat' (first | (with_reducible exact Below.refl _ _) | (with_reducible assumption) | (with_reducible refine below_drewN ?_ _) | (with_reducible refine Below.drew ?_) | (with_reducible refine Below.alloc ?_ ?_ _) | (with_reducible refine Below.setCell ?_ ?_ _) | go_size))⟩
set_option maxRecDepth 100000 in
set_option maxHeartbeats 2000000 in
theorem LL_bt (Xa Ya Ma Xb Yb Mb x W X Y M z s p q c1 c2 c3 c4 t ta tb : Int) (w : World) (e0 : decide (68719476736 ≤ hi Ya) = false) (e1 : decide (68719476736 ≤ hi Yb) = false) (e2 : decide (68719476736 ≤ hi W) = false) (e3 : decide (68719476736 ≤ Ma) = false) (hXa : 0 ≤ Xa ∧ Xa ≤ 18446744073709551615) (hYa : In128 Ya) (hMa : 0 ≤ Ma ∧ Ma ≤ 18446744073709551615) (hXb : 0 ≤ Xb ∧ Xb ≤ 18446744073709551615) (hYb : In128 Yb)  (hx : 0 ≤ x ∧ x ≤ 18446744073709551615) (hW : In128 W) (hY : In128 Y) (hX : 0 ≤ X ∧ X ≤ 18446744073709551615) (hM : 0 ≤ M ∧ M ≤ 18446744073709551615)
    (hr : (lowB Xa Ya Ma Xb Yb Ma = true ∧ X = Xb ∧ Y = Yb ∧ M = Ma) ∨ (lowB Xa Ya Ma Xb Yb Ma = false ∧ X = Xa ∧ Y = Ya ∧ M = Ma)) (hna : decide (X = Xa ∧ Y = Ya ∧ M = Ma) = !true) (hnb : true = true → decide (X = Xb ∧ Y = Yb ∧ M = Ma) = true)
    (hz : z = max x (max Xa Xb)) (hs : la X Y M z = s) (hp : la Xa Ya Ma z = p) (hq : la Xb Yb Ma z = q) (s1 : In128 s) (p1 : In128 p) (q1 : In128 q) (hc1 : cmp s p = c1) (hc2 : cmp s q = c2) (k1 : decide (0 < c1) = false) (k2 : decide (0 < c2) = false) (hc3 : cmp W Ya = c3) (k3 : decide (c3 ≤ 0) = false) (hc4 : cmp W Yb = c4) (k4 : decide (c4 ≤ 0) = true) :
    Calls Try.prog 8 #[lv Xa Ya Ma, lv Xb Yb Mb, .agg #[.int .u64 x, .int .u64 (hi W), .int .u64 (lo W)]] w fun e w' => e = .returned (.bool true) ∧ Below w.heap.size w w' := by
  have Hhr := hide hr; have Hhs := hide hs; have Hhp := hide hp; have Hhq := hide hq; have Hhc1 := hide hc1; have Hhc2 := hide hc2; have Hhc3 := hide hc3; have Hhc4 := hide hc4; clear hr hs hp hq hc1 hc2 hc3 hc4
  have r1 := lneq X Y M Xa Ya Ma true hY hYa hna
  have r2 := lneq X Y M Xb Yb Ma false hY hYb (by rw [hnb rfl]; rfl)
  clear hna hnb
  have Hz := hide hz
  clear hz
  go_enter Try.func8, Try.ntmps8
  go_wp2_with fail
  refine (low_any Xa Ya Ma Xb Yb Ma X Y M _ hXa hYa hMa hXb hYb hMa Hhr.out).mono ?_
  rintro e w1 ⟨rfl, hb1⟩
  have A1 : Blk w1 (w.heap.size) #[.int .u64 Xa, .int .u64 (hi (Ya)), .int .u64 (lo (Ya)), .int .u64 Ma] 44 := Blk.below (by (repeat' (first | (with_reducible assumption) | (with_reducible exact Blk.alloc_new _ _ _ (by first | rfl | (simp; done) | omega)) | (with_reducible refine Blk.drewN ?_ _) | (with_reducible refine Blk.drew ?_) | (with_reducible refine Blk.alloc_old ?_ _) | (with_reducible apply Blk.set_same) | (with_reducible refine Blk.set_other ?_ (by first | omega | (simp; done) | (simp; omega)) _) | (exact rfl)))) hb1 (by first | (simp; done) | omega | (simp; omega))
  have B1 : Blk w1 (w.heap.size + 1) #[.int .u64 Xb, .int .u64 (hi (Yb)), .int .u64 (lo (Yb)), .int .u64 Ma] 44 := Blk.below (by (repeat' (first | (with_reducible assumption) | (with_reducible exact Blk.alloc_new _ _ _ (by first | rfl | (simp; done) | omega)) | (with_reducible refine Blk.drewN ?_ _) | (with_reducible refine Blk.drew ?_) | (with_reducible refine Blk.alloc_old ?_ _) | (with_reducible apply Blk.set_same) | (with_reducible refine Blk.set_other ?_ (by first | omega | (simp; done) | (simp; omega)) _) | (exact rfl)))) hb1 (by first | (simp; done) | omega | (simp; omega))
  have Q1 : Blk w1 (w.heap.size + 1 + 1) #[.int .u64 x, .int .u64 (hi (W)), .int .u64 (lo (W))] 46 := Blk.below (by (repeat' (first | (with_reducible assumption) | (with_reducible exact Blk.alloc_new _ _ _ (by first | rfl | (simp; done) | omega)) | (with_reducible refine Blk.drewN ?_ _) | (with_reducible refine Blk.drew ?_) | (with_reducible refine Blk.alloc_old ?_ _) | (with_reducible apply Blk.set_same) | (with_reducible refine Blk.set_other ?_ (by first | omega | (simp; done) | (simp; omega)) _) | (exact rfl)))) hb1 (by first | (simp; done) | omega | (simp; omega))
  have g1 : Below w.heap.size w w1 := by refine Below.trans ?_ (hb1.mono ?_) <;> (repeat' (first | (with_reducible exact Below.refl _ _) | (with_reducible assumption) | (with_reducible refine below_drewN ?_ _) | (with_reducible refine Below.drew ?_) | (with_reducible refine Below.alloc ?_ ?_ _) | (with_reducible refine Below.setCell ?_ ?_ _) | go_size))
  have hz1 := hb1.size
  (try simp at hz1)
  clear hb1
  replace cA := A1.cell
  replace fA := A1.frozen
  replace zA := A1.size
  replace cB := B1.cell
  replace fB := B1.frozen
  replace zB := B1.size
  replace cQ := Q1.cell
  replace fQ := Q1.frozen
  replace zQ := Q1.size
  go_upto_region 7 with (fail)
  go_cut [8] (fun p8 wx => p8 = .int .u64 z ∧ Below w.heap.size w wx ∧ Blk wx (w.heap.size) #[.int .u64 Xa, .int .u64 (hi (Ya)), .int .u64 (lo (Ya)), .int .u64 Ma] 44 ∧ Blk wx (w.heap.size + 1) #[.int .u64 Xb, .int .u64 (hi (Yb)), .int .u64 (lo (Yb)), .int .u64 Ma] 44 ∧ Blk wx (w.heap.size + 1 + 1) #[.int .u64 x, .int .u64 (hi (W)), .int .u64 (lo (W))] 46 ∧ Blk wx (w1.heap.size) #[.int .u64 X, .int .u64 (hi (Y)), .int .u64 (lo (Y)), .int .u64 M] 44)
  case first =>
    go_wp2_with fail
    all_goals
      go_meet
      refine ⟨?_, by (repeat' (first | (with_reducible exact Below.refl _ _) | (with_reducible assumption) | (with_reducible refine below_drewN ?_ _) | (with_reducible refine Below.drew ?_) | (with_reducible refine Below.alloc ?_ ?_ _) | (with_reducible refine Below.setCell ?_ ?_ _) | go_size)), by (repeat' (first | (with_reducible assumption) | (with_reducible exact Blk.alloc_new _ _ _ (by first | rfl | (simp; done) | omega)) | (with_reducible refine Blk.drewN ?_ _) | (with_reducible refine Blk.drew ?_) | (with_reducible refine Blk.alloc_old ?_ _) | (with_reducible apply Blk.set_same) | (with_reducible refine Blk.set_other ?_ (by first | omega | (simp; done) | (simp; omega)) _) | (exact rfl))), by (repeat' (first | (with_reducible assumption) | (with_reducible exact Blk.alloc_new _ _ _ (by first | rfl | (simp; done) | omega)) | (with_reducible refine Blk.drewN ?_ _) | (with_reducible refine Blk.drew ?_) | (with_reducible refine Blk.alloc_old ?_ _) | (with_reducible apply Blk.set_same) | (with_reducible refine Blk.set_other ?_ (by first | omega | (simp; done) | (simp; omega)) _) | (exact rfl))), by (repeat' (first | (with_reducible assumption) | (with_reducible exact Blk.alloc_new _ _ _ (by first | rfl | (simp; done) | omega)) | (with_reducible refine Blk.drewN ?_ _) | (with_reducible refine Blk.drew ?_) | (with_reducible refine Blk.alloc_old ?_ _) | (with_reducible apply Blk.set_same) | (with_reducible refine Blk.set_other ?_ (by first | omega | (simp; done) | (simp; omega)) _) | (exact rfl))), by (repeat' (first | (with_reducible assumption) | (with_reducible exact Blk.alloc_new _ _ _ (by first | rfl | (simp; done) | omega)) | (with_reducible refine Blk.drewN ?_ _) | (with_reducible refine Blk.drew ?_) | (with_reducible refine Blk.alloc_old ?_ _) | (with_reducible apply Blk.set_same) | (with_reducible refine Blk.set_other ?_ (by first | omega | (simp; done) | (simp; omega)) _) | (exact rfl)))⟩
      have := Hz.out
      first | rfl | (exact congrArg (Value.int .u64) (by omega))
  case rest =>
    obtain ⟨rfl, g2, A2, B2, Q2, L2⟩ := hcut
    have hz2 := g2.size
    have zrng : 0 ≤ z ∧ z ≤ 18446744073709551615 := by have := Hz.out; omega
    clear cA fA zA cB fB zB cQ fQ zQ A1 B1 Q1
    have zL0 := L2.size
    have cA := A2.cell; have fA := A2.frozen; have zA := A2.size
    have cB := B2.cell; have fB := B2.frozen; have zB := B2.size
    have cQ := Q2.cell; have fQ := Q2.frozen; have zQ := Q2.size
    have cL := L2.cell; have fL := L2.frozen; have zL := L2.size
    go_wp2_with fail
    refine wp_forget (fun v => Below w.heap.size w v ∧ Blk v (w.heap.size) #[.int .u64 Xa, .int .u64 (hi (Ya)), .int .u64 (lo (Ya)), .int .u64 Ma] 44 ∧ Blk v (w.heap.size + 1) #[.int .u64 Xb, .int .u64 (hi (Yb)), .int .u64 (lo (Yb)), .int .u64 Ma] 44 ∧ Blk v (w.heap.size + 1 + 1) #[.int .u64 x, .int .u64 (hi (W)), .int .u64 (lo (W))] 46 ∧ Blk v (w1.heap.size) #[.int .u64 X, .int .u64 (hi (Y)), .int .u64 (lo (Y)), .int .u64 M] 44) ⟨by (repeat' (first | (with_reducible exact Below.refl _ _) | (with_reducible assumption) | (with_reducible refine below_drewN ?_ _) | (with_reducible refine Below.drew ?_) | (with_reducible refine Below.alloc ?_ ?_ _) | (with_reducible refine Below.setCell ?_ ?_ _) | go_size)), by (repeat' (first | (with_reducible assumption) | (with_reducible exact Blk.alloc_new _ _ _ (by first | rfl | (simp; done) | omega)) | (with_reducible refine Blk.drewN ?_ _) | (with_reducible refine Blk.drew ?_) | (with_reducible refine Blk.alloc_old ?_ _) | (with_reducible apply Blk.set_same) | (with_reducible refine Blk.set_other ?_ (by first | omega | (simp; done) | (simp; omega)) _) | (exact rfl))), by (repeat' (first | (with_reducible assumption) | (with_reducible exact Blk.alloc_new _ _ _ (by first | rfl | (simp; done) | omega)) | (with_reducible refine Blk.drewN ?_ _) | (with_reducible refine Blk.drew ?_) | (with_reducible refine Blk.alloc_old ?_ _) | (with_reducible apply Blk.set_same) | (with_reducible refine Blk.set_other ?_ (by first | omega | (simp; done) | (simp; omega)) _) | (exact rfl))), by (repeat' (first | (with_reducible assumption) | (with_reducible exact Blk.alloc_new _ _ _ (by first | rfl | (simp; done) | omega)) | (with_reducible refine Blk.drewN ?_ _) | (with_reducible refine Blk.drew ?_) | (with_reducible refine Blk.alloc_old ?_ _) | (with_reducible apply Blk.set_same) | (with_reducible refine Blk.set_other ?_ (by first | omega | (simp; done) | (simp; omega)) _) | (exact rfl))), by (repeat' (first | (with_reducible assumption) | (with_reducible exact Blk.alloc_new _ _ _ (by first | rfl | (simp; done) | omega)) | (with_reducible refine Blk.drewN ?_ _) | (with_reducible refine Blk.drew ?_) | (with_reducible refine Blk.alloc_old ?_ _) | (with_reducible apply Blk.set_same) | (with_reducible refine Blk.set_other ?_ (by first | omega | (simp; done) | (simp; omega)) _) | (exact rfl)))⟩ ?_
    rintro v3 ⟨gv3, Av3, Bv3, Qv3, Lv3⟩
    have qA3 := blk_calm Av3
    have qB3 := blk_calm Bv3
    have qQ3 := blk_calm Qv3
    have qL3 := blk_calm Lv3
    refine wp_region_quiet_below (by kernel_rfl) (by kernel_rfl) ?_
    repeat (go_big_quiet_step ((first
        | (go_at_call 26; (with_reducible exact Calls.regrown_of (lat X Y M z s _ hX hY hM zrng Hhs.out)))
        | (go_at_call 26; (with_reducible exact Calls.regrown_of (lat Xa Ya Ma z p _ hXa hYa hMa zrng Hhp.out)))
        | (go_at_call 26; (with_reducible exact Calls.regrown_of (lat Xb Yb Ma z q _ hXb hYb hMa zrng Hhq.out)))
        | (go_at_call 34; (with_reducible exact Calls.regrown_of (wcmpC s p c1 _ s1 p1 Hhc1.out)))
        | (go_at_call 34; (with_reducible exact Calls.regrown_of (wcmpC s q c2 _ s1 q1 Hhc2.out))))))
    refine wpQuiet_nil ?_
    intro _ hw'
    obtain ⟨pq, hw''⟩ := hw'
    subst hw''
    have hb3 := below_regrown v3 pq.d pq.os
    generalize Sort.grow (redrawn v3 pq.d) pq.os = w3 at *
    have A3 : Blk w3 (w.heap.size) #[.int .u64 Xa, .int .u64 (hi (Ya)), .int .u64 (lo (Ya)), .int .u64 Ma] 44 := Blk.below Av3 hb3 Av3.size
    have B3 : Blk w3 (w.heap.size + 1) #[.int .u64 Xb, .int .u64 (hi (Yb)), .int .u64 (lo (Yb)), .int .u64 Ma] 44 := Blk.below Bv3 hb3 Bv3.size
    have Q3 : Blk w3 (w.heap.size + 1 + 1) #[.int .u64 x, .int .u64 (hi (W)), .int .u64 (lo (W))] 46 := Blk.below Qv3 hb3 Qv3.size
    have L3 : Blk w3 (w1.heap.size) #[.int .u64 X, .int .u64 (hi (Y)), .int .u64 (lo (Y)), .int .u64 M] 44 := Blk.below Lv3 hb3 Lv3.size
    have g3 : Below w.heap.size w w3 := gv3.trans (hb3.mono gv3.size)
    have hz3 : w.heap.size ≤ w3.heap.size := g3.size
    clear hb3 gv3 Av3 qA3 Bv3 qB3 Qv3 qQ3 Lv3 qL3
    replace cA := A3.cell
    replace fA := A3.frozen
    replace zA := A3.size
    replace cB := B3.cell
    replace fB := B3.frozen
    replace zB := B3.size
    replace cQ := Q3.cell
    replace fQ := Q3.frozen
    replace zQ := Q3.size
    replace cL := L3.cell
    replace fL := L3.frozen
    replace zL := L3.size
    go_wp2_with fail
    refine (wcmpC W Ya c3 _ hW hYa Hhc3.out).mono ?_
    rintro e w4 ⟨rfl, hb4⟩
    have A4 : Blk w4 (w.heap.size) #[.int .u64 Xa, .int .u64 (hi (Ya)), .int .u64 (lo (Ya)), .int .u64 Ma] 44 := Blk.below (by (repeat' (first | (with_reducible assumption) | (with_reducible exact Blk.alloc_new _ _ _ (by first | rfl | (simp; done) | omega)) | (with_reducible refine Blk.drewN ?_ _) | (with_reducible refine Blk.drew ?_) | (with_reducible refine Blk.alloc_old ?_ _) | (with_reducible apply Blk.set_same) | (with_reducible refine Blk.set_other ?_ (by first | omega | (simp; done) | (simp; omega)) _) | (exact rfl)))) hb4 (by first | (simp; done) | omega | (simp; omega))
    have B4 : Blk w4 (w.heap.size + 1) #[.int .u64 Xb, .int .u64 (hi (Yb)), .int .u64 (lo (Yb)), .int .u64 Ma] 44 := Blk.below (by (repeat' (first | (with_reducible assumption) | (with_reducible exact Blk.alloc_new _ _ _ (by first | rfl | (simp; done) | omega)) | (with_reducible refine Blk.drewN ?_ _) | (with_reducible refine Blk.drew ?_) | (with_reducible refine Blk.alloc_old ?_ _) | (with_reducible apply Blk.set_same) | (with_reducible refine Blk.set_other ?_ (by first | omega | (simp; done) | (simp; omega)) _) | (exact rfl)))) hb4 (by first | (simp; done) | omega | (simp; omega))
    have Q4 : Blk w4 (w.heap.size + 1 + 1) #[.int .u64 x, .int .u64 (hi (W)), .int .u64 (lo (W))] 46 := Blk.below (by (repeat' (first | (with_reducible assumption) | (with_reducible exact Blk.alloc_new _ _ _ (by first | rfl | (simp; done) | omega)) | (with_reducible refine Blk.drewN ?_ _) | (with_reducible refine Blk.drew ?_) | (with_reducible refine Blk.alloc_old ?_ _) | (with_reducible apply Blk.set_same) | (with_reducible refine Blk.set_other ?_ (by first | omega | (simp; done) | (simp; omega)) _) | (exact rfl)))) hb4 (by first | (simp; done) | omega | (simp; omega))
    have L4 : Blk w4 (w1.heap.size) #[.int .u64 X, .int .u64 (hi (Y)), .int .u64 (lo (Y)), .int .u64 M] 44 := Blk.below (by (repeat' (first | (with_reducible assumption) | (with_reducible exact Blk.alloc_new _ _ _ (by first | rfl | (simp; done) | omega)) | (with_reducible refine Blk.drewN ?_ _) | (with_reducible refine Blk.drew ?_) | (with_reducible refine Blk.alloc_old ?_ _) | (with_reducible apply Blk.set_same) | (with_reducible refine Blk.set_other ?_ (by first | omega | (simp; done) | (simp; omega)) _) | (exact rfl)))) hb4 (by first | (simp; done) | omega | (simp; omega))
    have g4 : Below w.heap.size w w4 := by refine Below.trans ?_ (hb4.mono ?_) <;> (repeat' (first | (with_reducible exact Below.refl _ _) | (with_reducible assumption) | (with_reducible refine below_drewN ?_ _) | (with_reducible refine Below.drew ?_) | (with_reducible refine Below.alloc ?_ ?_ _) | (with_reducible refine Below.setCell ?_ ?_ _) | go_size))
    have hz4 := hb4.size
    (try simp at hz4)
    clear hb4
    replace cA := A4.cell
    replace fA := A4.frozen
    replace zA := A4.size
    replace cB := B4.cell
    replace fB := B4.frozen
    replace zB := B4.size
    replace cQ := Q4.cell
    replace fQ := Q4.frozen
    replace zQ := Q4.size
    replace cL := L4.cell
    replace fL := L4.frozen
    replace zL := L4.size
    go_wp2_with fail
    refine (wcmpC W Yb c4 _ hW hYb Hhc4.out).mono ?_
    rintro e w5 ⟨rfl, hb5⟩
    have A5 : Blk w5 (w.heap.size) #[.int .u64 Xa, .int .u64 (hi (Ya)), .int .u64 (lo (Ya)), .int .u64 Ma] 44 := Blk.below (by (repeat' (first | (with_reducible assumption) | (with_reducible exact Blk.alloc_new _ _ _ (by first | rfl | (simp; done) | omega)) | (with_reducible refine Blk.drewN ?_ _) | (with_reducible refine Blk.drew ?_) | (with_reducible refine Blk.alloc_old ?_ _) | (with_reducible apply Blk.set_same) | (with_reducible refine Blk.set_other ?_ (by first | omega | (simp; done) | (simp; omega)) _) | (exact rfl)))) hb5 (by first | (simp; done) | omega | (simp; omega))
    have B5 : Blk w5 (w.heap.size + 1) #[.int .u64 Xb, .int .u64 (hi (Yb)), .int .u64 (lo (Yb)), .int .u64 Ma] 44 := Blk.below (by (repeat' (first | (with_reducible assumption) | (with_reducible exact Blk.alloc_new _ _ _ (by first | rfl | (simp; done) | omega)) | (with_reducible refine Blk.drewN ?_ _) | (with_reducible refine Blk.drew ?_) | (with_reducible refine Blk.alloc_old ?_ _) | (with_reducible apply Blk.set_same) | (with_reducible refine Blk.set_other ?_ (by first | omega | (simp; done) | (simp; omega)) _) | (exact rfl)))) hb5 (by first | (simp; done) | omega | (simp; omega))
    have Q5 : Blk w5 (w.heap.size + 1 + 1) #[.int .u64 x, .int .u64 (hi (W)), .int .u64 (lo (W))] 46 := Blk.below (by (repeat' (first | (with_reducible assumption) | (with_reducible exact Blk.alloc_new _ _ _ (by first | rfl | (simp; done) | omega)) | (with_reducible refine Blk.drewN ?_ _) | (with_reducible refine Blk.drew ?_) | (with_reducible refine Blk.alloc_old ?_ _) | (with_reducible apply Blk.set_same) | (with_reducible refine Blk.set_other ?_ (by first | omega | (simp; done) | (simp; omega)) _) | (exact rfl)))) hb5 (by first | (simp; done) | omega | (simp; omega))
    have L5 : Blk w5 (w1.heap.size) #[.int .u64 X, .int .u64 (hi (Y)), .int .u64 (lo (Y)), .int .u64 M] 44 := Blk.below (by (repeat' (first | (with_reducible assumption) | (with_reducible exact Blk.alloc_new _ _ _ (by first | rfl | (simp; done) | omega)) | (with_reducible refine Blk.drewN ?_ _) | (with_reducible refine Blk.drew ?_) | (with_reducible refine Blk.alloc_old ?_ _) | (with_reducible apply Blk.set_same) | (with_reducible refine Blk.set_other ?_ (by first | omega | (simp; done) | (simp; omega)) _) | (exact rfl)))) hb5 (by first | (simp; done) | omega | (simp; omega))
    have g5 : Below w.heap.size w w5 := by refine Below.trans ?_ (hb5.mono ?_) <;> (repeat' (first | (with_reducible exact Below.refl _ _) | (with_reducible assumption) | (with_reducible refine below_drewN ?_ _) | (with_reducible refine Below.drew ?_) | (with_reducible refine Below.alloc ?_ ?_ _) | (with_reducible refine Below.setCell ?_ ?_ _) | go_size))
    have hz5 := hb5.size
    (try simp at hz5)
    clear hb5
    replace cA := A5.cell
    replace fA := A5.frozen
    replace zA := A5.size
    replace cB := B5.cell
    replace fB := B5.frozen
    replace zB := B5.size
    replace cQ := Q5.cell
    replace fQ := Q5.frozen
    replace zQ := Q5.size
    replace cL := L5.cell
    replace fL := L5.frozen
    replace zL := L5.size
    go_wp2_with fail
    refine (ten_true _).mono ?_
    rintro e w6 ⟨rfl, hb6⟩
    have g6 : Below w.heap.size w w6 := by refine Below.trans ?_ (hb6.mono ?_) <;> (repeat' (first | (with_reducible exact Below.refl _ _) | (with_reducible assumption) | (with_reducible refine below_drewN ?_ _) | (with_reducible refine Below.drew ?_) | (with_reducible refine Below.alloc ?_ ?_ _) | (with_reducible refine Below.setCell ?_ ?_ _) | go_size))
    have hz6 := hb6.size
    (try simp at hz6)
    clear hb6
    go_wp2
    go_ret
    exact ⟨rfl, by (repeat' (first | (with_reducible exact Below.refl _ _) | (with_reducible assumption) | (with_reducible refine below_drewN ?_ _) | (with_reducible refine Below.drew ?_) | (with_reducible refine Below.alloc ?_ ?_ _) | (with_reducible refine Below.setCell ?_ ?_ _) | go_size))⟩
set_option maxRecDepth 100000 in
set_option maxHeartbeats 2000000 in
theorem LL_cf (Xa Ya Ma Xb Yb Mb x W X Y M z s p q c1 c2 c3 c4 t ta tb : Int) (w : World) (e0 : decide (68719476736 ≤ hi Ya) = false) (e1 : decide (68719476736 ≤ hi Yb) = false) (e2 : decide (68719476736 ≤ hi W) = false) (e3 : decide (68719476736 ≤ Ma) = false) (hXa : 0 ≤ Xa ∧ Xa ≤ 18446744073709551615) (hYa : In128 Ya) (hMa : 0 ≤ Ma ∧ Ma ≤ 18446744073709551615) (hXb : 0 ≤ Xb ∧ Xb ≤ 18446744073709551615) (hYb : In128 Yb)  (hx : 0 ≤ x ∧ x ≤ 18446744073709551615) (hW : In128 W) (hY : In128 Y) (hX : 0 ≤ X ∧ X ≤ 18446744073709551615) (hM : 0 ≤ M ∧ M ≤ 18446744073709551615)
    (hr : (lowB Xa Ya Ma Xb Yb Ma = true ∧ X = Xb ∧ Y = Yb ∧ M = Ma) ∨ (lowB Xa Ya Ma Xb Yb Ma = false ∧ X = Xa ∧ Y = Ya ∧ M = Ma)) (hna : decide (X = Xa ∧ Y = Ya ∧ M = Ma) = !false) (hnb : false = true → decide (X = Xb ∧ Y = Yb ∧ M = Ma) = true)
    (hz : z = max x (max Xa Xb)) (hs : la X Y M z = s) (hp : la Xa Ya Ma z = p) (hq : la Xb Yb Ma z = q) (s1 : In128 s) (p1 : In128 p) (q1 : In128 q) (hc1 : cmp s p = c1) (hc2 : cmp s q = c2) (k1 : decide (0 < c1) = false) (k2 : decide (0 < c2) = false) (hc3 : cmp W Ya = c3) (k3 : decide (c3 ≤ 0) = false) (hc4 : cmp W Yb = c4) (k4 : decide (c4 ≤ 0) = false) (ht : lr X Y M W = t) (hta : lr Xa Ya Ma W = ta) (htb : lr Xb Yb Ma W = tb) (k5 : decide (ta < tb) = false) (k6 : (t == ta) = true) :
    Calls Try.prog 8 #[lv Xa Ya Ma, lv Xb Yb Mb, .agg #[.int .u64 x, .int .u64 (hi W), .int .u64 (lo W)]] w fun e w' => e = .returned (.bool true) ∧ Below w.heap.size w w' := by
  have Hhr := hide hr; have Hhs := hide hs; have Hhp := hide hp; have Hhq := hide hq; have Hhc1 := hide hc1; have Hhc2 := hide hc2; have Hhc3 := hide hc3; have Hhc4 := hide hc4; have Hht := hide ht; have Hhta := hide hta; have Hhtb := hide htb; clear hr hs hp hq hc1 hc2 hc3 hc4 ht hta htb
  have r1 := lneq X Y M Xa Ya Ma false hY hYa hna
  clear hna hnb
  have Hz := hide hz
  clear hz
  have k7 : ¬ ta < tb := of_decide_eq_false k5
  go_enter Try.func8, Try.ntmps8
  go_wp2_with fail
  refine (low_any Xa Ya Ma Xb Yb Ma X Y M _ hXa hYa hMa hXb hYb hMa Hhr.out).mono ?_
  rintro e w1 ⟨rfl, hb1⟩
  have A1 : Blk w1 (w.heap.size) #[.int .u64 Xa, .int .u64 (hi (Ya)), .int .u64 (lo (Ya)), .int .u64 Ma] 44 := Blk.below (by (repeat' (first | (with_reducible assumption) | (with_reducible exact Blk.alloc_new _ _ _ (by first | rfl | (simp; done) | omega)) | (with_reducible refine Blk.drewN ?_ _) | (with_reducible refine Blk.drew ?_) | (with_reducible refine Blk.alloc_old ?_ _) | (with_reducible apply Blk.set_same) | (with_reducible refine Blk.set_other ?_ (by first | omega | (simp; done) | (simp; omega)) _) | (exact rfl)))) hb1 (by first | (simp; done) | omega | (simp; omega))
  have B1 : Blk w1 (w.heap.size + 1) #[.int .u64 Xb, .int .u64 (hi (Yb)), .int .u64 (lo (Yb)), .int .u64 Ma] 44 := Blk.below (by (repeat' (first | (with_reducible assumption) | (with_reducible exact Blk.alloc_new _ _ _ (by first | rfl | (simp; done) | omega)) | (with_reducible refine Blk.drewN ?_ _) | (with_reducible refine Blk.drew ?_) | (with_reducible refine Blk.alloc_old ?_ _) | (with_reducible apply Blk.set_same) | (with_reducible refine Blk.set_other ?_ (by first | omega | (simp; done) | (simp; omega)) _) | (exact rfl)))) hb1 (by first | (simp; done) | omega | (simp; omega))
  have Q1 : Blk w1 (w.heap.size + 1 + 1) #[.int .u64 x, .int .u64 (hi (W)), .int .u64 (lo (W))] 46 := Blk.below (by (repeat' (first | (with_reducible assumption) | (with_reducible exact Blk.alloc_new _ _ _ (by first | rfl | (simp; done) | omega)) | (with_reducible refine Blk.drewN ?_ _) | (with_reducible refine Blk.drew ?_) | (with_reducible refine Blk.alloc_old ?_ _) | (with_reducible apply Blk.set_same) | (with_reducible refine Blk.set_other ?_ (by first | omega | (simp; done) | (simp; omega)) _) | (exact rfl)))) hb1 (by first | (simp; done) | omega | (simp; omega))
  have g1 : Below w.heap.size w w1 := by refine Below.trans ?_ (hb1.mono ?_) <;> (repeat' (first | (with_reducible exact Below.refl _ _) | (with_reducible assumption) | (with_reducible refine below_drewN ?_ _) | (with_reducible refine Below.drew ?_) | (with_reducible refine Below.alloc ?_ ?_ _) | (with_reducible refine Below.setCell ?_ ?_ _) | go_size))
  have hz1 := hb1.size
  (try simp at hz1)
  clear hb1
  replace cA := A1.cell
  replace fA := A1.frozen
  replace zA := A1.size
  replace cB := B1.cell
  replace fB := B1.frozen
  replace zB := B1.size
  replace cQ := Q1.cell
  replace fQ := Q1.frozen
  replace zQ := Q1.size
  go_upto_region 7 with (fail)
  go_cut [8] (fun p8 wx => p8 = .int .u64 z ∧ Below w.heap.size w wx ∧ Blk wx (w.heap.size) #[.int .u64 Xa, .int .u64 (hi (Ya)), .int .u64 (lo (Ya)), .int .u64 Ma] 44 ∧ Blk wx (w.heap.size + 1) #[.int .u64 Xb, .int .u64 (hi (Yb)), .int .u64 (lo (Yb)), .int .u64 Ma] 44 ∧ Blk wx (w.heap.size + 1 + 1) #[.int .u64 x, .int .u64 (hi (W)), .int .u64 (lo (W))] 46 ∧ Blk wx (w1.heap.size) #[.int .u64 X, .int .u64 (hi (Y)), .int .u64 (lo (Y)), .int .u64 M] 44)
  case first =>
    go_wp2_with fail
    all_goals
      go_meet
      refine ⟨?_, by (repeat' (first | (with_reducible exact Below.refl _ _) | (with_reducible assumption) | (with_reducible refine below_drewN ?_ _) | (with_reducible refine Below.drew ?_) | (with_reducible refine Below.alloc ?_ ?_ _) | (with_reducible refine Below.setCell ?_ ?_ _) | go_size)), by (repeat' (first | (with_reducible assumption) | (with_reducible exact Blk.alloc_new _ _ _ (by first | rfl | (simp; done) | omega)) | (with_reducible refine Blk.drewN ?_ _) | (with_reducible refine Blk.drew ?_) | (with_reducible refine Blk.alloc_old ?_ _) | (with_reducible apply Blk.set_same) | (with_reducible refine Blk.set_other ?_ (by first | omega | (simp; done) | (simp; omega)) _) | (exact rfl))), by (repeat' (first | (with_reducible assumption) | (with_reducible exact Blk.alloc_new _ _ _ (by first | rfl | (simp; done) | omega)) | (with_reducible refine Blk.drewN ?_ _) | (with_reducible refine Blk.drew ?_) | (with_reducible refine Blk.alloc_old ?_ _) | (with_reducible apply Blk.set_same) | (with_reducible refine Blk.set_other ?_ (by first | omega | (simp; done) | (simp; omega)) _) | (exact rfl))), by (repeat' (first | (with_reducible assumption) | (with_reducible exact Blk.alloc_new _ _ _ (by first | rfl | (simp; done) | omega)) | (with_reducible refine Blk.drewN ?_ _) | (with_reducible refine Blk.drew ?_) | (with_reducible refine Blk.alloc_old ?_ _) | (with_reducible apply Blk.set_same) | (with_reducible refine Blk.set_other ?_ (by first | omega | (simp; done) | (simp; omega)) _) | (exact rfl))), by (repeat' (first | (with_reducible assumption) | (with_reducible exact Blk.alloc_new _ _ _ (by first | rfl | (simp; done) | omega)) | (with_reducible refine Blk.drewN ?_ _) | (with_reducible refine Blk.drew ?_) | (with_reducible refine Blk.alloc_old ?_ _) | (with_reducible apply Blk.set_same) | (with_reducible refine Blk.set_other ?_ (by first | omega | (simp; done) | (simp; omega)) _) | (exact rfl)))⟩
      have := Hz.out
      first | rfl | (exact congrArg (Value.int .u64) (by omega))
  case rest =>
    obtain ⟨rfl, g2, A2, B2, Q2, L2⟩ := hcut
    have hz2 := g2.size
    have zrng : 0 ≤ z ∧ z ≤ 18446744073709551615 := by have := Hz.out; omega
    clear cA fA zA cB fB zB cQ fQ zQ A1 B1 Q1
    have zL0 := L2.size
    have cA := A2.cell; have fA := A2.frozen; have zA := A2.size
    have cB := B2.cell; have fB := B2.frozen; have zB := B2.size
    have cQ := Q2.cell; have fQ := Q2.frozen; have zQ := Q2.size
    have cL := L2.cell; have fL := L2.frozen; have zL := L2.size
    go_wp2_with fail
    refine wp_forget (fun v => Below w.heap.size w v ∧ Blk v (w.heap.size) #[.int .u64 Xa, .int .u64 (hi (Ya)), .int .u64 (lo (Ya)), .int .u64 Ma] 44 ∧ Blk v (w.heap.size + 1) #[.int .u64 Xb, .int .u64 (hi (Yb)), .int .u64 (lo (Yb)), .int .u64 Ma] 44 ∧ Blk v (w.heap.size + 1 + 1) #[.int .u64 x, .int .u64 (hi (W)), .int .u64 (lo (W))] 46 ∧ Blk v (w1.heap.size) #[.int .u64 X, .int .u64 (hi (Y)), .int .u64 (lo (Y)), .int .u64 M] 44) ⟨by (repeat' (first | (with_reducible exact Below.refl _ _) | (with_reducible assumption) | (with_reducible refine below_drewN ?_ _) | (with_reducible refine Below.drew ?_) | (with_reducible refine Below.alloc ?_ ?_ _) | (with_reducible refine Below.setCell ?_ ?_ _) | go_size)), by (repeat' (first | (with_reducible assumption) | (with_reducible exact Blk.alloc_new _ _ _ (by first | rfl | (simp; done) | omega)) | (with_reducible refine Blk.drewN ?_ _) | (with_reducible refine Blk.drew ?_) | (with_reducible refine Blk.alloc_old ?_ _) | (with_reducible apply Blk.set_same) | (with_reducible refine Blk.set_other ?_ (by first | omega | (simp; done) | (simp; omega)) _) | (exact rfl))), by (repeat' (first | (with_reducible assumption) | (with_reducible exact Blk.alloc_new _ _ _ (by first | rfl | (simp; done) | omega)) | (with_reducible refine Blk.drewN ?_ _) | (with_reducible refine Blk.drew ?_) | (with_reducible refine Blk.alloc_old ?_ _) | (with_reducible apply Blk.set_same) | (with_reducible refine Blk.set_other ?_ (by first | omega | (simp; done) | (simp; omega)) _) | (exact rfl))), by (repeat' (first | (with_reducible assumption) | (with_reducible exact Blk.alloc_new _ _ _ (by first | rfl | (simp; done) | omega)) | (with_reducible refine Blk.drewN ?_ _) | (with_reducible refine Blk.drew ?_) | (with_reducible refine Blk.alloc_old ?_ _) | (with_reducible apply Blk.set_same) | (with_reducible refine Blk.set_other ?_ (by first | omega | (simp; done) | (simp; omega)) _) | (exact rfl))), by (repeat' (first | (with_reducible assumption) | (with_reducible exact Blk.alloc_new _ _ _ (by first | rfl | (simp; done) | omega)) | (with_reducible refine Blk.drewN ?_ _) | (with_reducible refine Blk.drew ?_) | (with_reducible refine Blk.alloc_old ?_ _) | (with_reducible apply Blk.set_same) | (with_reducible refine Blk.set_other ?_ (by first | omega | (simp; done) | (simp; omega)) _) | (exact rfl)))⟩ ?_
    rintro v3 ⟨gv3, Av3, Bv3, Qv3, Lv3⟩
    have qA3 := blk_calm Av3
    have qB3 := blk_calm Bv3
    have qQ3 := blk_calm Qv3
    have qL3 := blk_calm Lv3
    refine wp_region_quiet_below (by kernel_rfl) (by kernel_rfl) ?_
    repeat (go_big_quiet_step ((first
        | (go_at_call 26; (with_reducible exact Calls.regrown_of (lat X Y M z s _ hX hY hM zrng Hhs.out)))
        | (go_at_call 26; (with_reducible exact Calls.regrown_of (lat Xa Ya Ma z p _ hXa hYa hMa zrng Hhp.out)))
        | (go_at_call 26; (with_reducible exact Calls.regrown_of (lat Xb Yb Ma z q _ hXb hYb hMa zrng Hhq.out)))
        | (go_at_call 34; (with_reducible exact Calls.regrown_of (wcmpC s p c1 _ s1 p1 Hhc1.out)))
        | (go_at_call 34; (with_reducible exact Calls.regrown_of (wcmpC s q c2 _ s1 q1 Hhc2.out))))))
    refine wpQuiet_nil ?_
    intro _ hw'
    obtain ⟨pq, hw''⟩ := hw'
    subst hw''
    have hb3 := below_regrown v3 pq.d pq.os
    generalize Sort.grow (redrawn v3 pq.d) pq.os = w3 at *
    have A3 : Blk w3 (w.heap.size) #[.int .u64 Xa, .int .u64 (hi (Ya)), .int .u64 (lo (Ya)), .int .u64 Ma] 44 := Blk.below Av3 hb3 Av3.size
    have B3 : Blk w3 (w.heap.size + 1) #[.int .u64 Xb, .int .u64 (hi (Yb)), .int .u64 (lo (Yb)), .int .u64 Ma] 44 := Blk.below Bv3 hb3 Bv3.size
    have Q3 : Blk w3 (w.heap.size + 1 + 1) #[.int .u64 x, .int .u64 (hi (W)), .int .u64 (lo (W))] 46 := Blk.below Qv3 hb3 Qv3.size
    have L3 : Blk w3 (w1.heap.size) #[.int .u64 X, .int .u64 (hi (Y)), .int .u64 (lo (Y)), .int .u64 M] 44 := Blk.below Lv3 hb3 Lv3.size
    have g3 : Below w.heap.size w w3 := gv3.trans (hb3.mono gv3.size)
    have hz3 : w.heap.size ≤ w3.heap.size := g3.size
    clear hb3 gv3 Av3 qA3 Bv3 qB3 Qv3 qQ3 Lv3 qL3
    replace cA := A3.cell
    replace fA := A3.frozen
    replace zA := A3.size
    replace cB := B3.cell
    replace fB := B3.frozen
    replace zB := B3.size
    replace cQ := Q3.cell
    replace fQ := Q3.frozen
    replace zQ := Q3.size
    replace cL := L3.cell
    replace fL := L3.frozen
    replace zL := L3.size
    go_wp2_with fail
    refine (wcmpC W Ya c3 _ hW hYa Hhc3.out).mono ?_
    rintro e w4 ⟨rfl, hb4⟩
    have A4 : Blk w4 (w.heap.size) #[.int .u64 Xa, .int .u64 (hi (Ya)), .int .u64 (lo (Ya)), .int .u64 Ma] 44 := Blk.below (by (repeat' (first | (with_reducible assumption) | (with_reducible exact Blk.alloc_new _ _ _ (by first | rfl | (simp; done) | omega)) | (with_reducible refine Blk.drewN ?_ _) | (with_reducible refine Blk.drew ?_) | (with_reducible refine Blk.alloc_old ?_ _) | (with_reducible apply Blk.set_same) | (with_reducible refine Blk.set_other ?_ (by first | omega | (simp; done) | (simp; omega)) _) | (exact rfl)))) hb4 (by first | (simp; done) | omega | (simp; omega))
    have B4 : Blk w4 (w.heap.size + 1) #[.int .u64 Xb, .int .u64 (hi (Yb)), .int .u64 (lo (Yb)), .int .u64 Ma] 44 := Blk.below (by (repeat' (first | (with_reducible assumption) | (with_reducible exact Blk.alloc_new _ _ _ (by first | rfl | (simp; done) | omega)) | (with_reducible refine Blk.drewN ?_ _) | (with_reducible refine Blk.drew ?_) | (with_reducible refine Blk.alloc_old ?_ _) | (with_reducible apply Blk.set_same) | (with_reducible refine Blk.set_other ?_ (by first | omega | (simp; done) | (simp; omega)) _) | (exact rfl)))) hb4 (by first | (simp; done) | omega | (simp; omega))
    have Q4 : Blk w4 (w.heap.size + 1 + 1) #[.int .u64 x, .int .u64 (hi (W)), .int .u64 (lo (W))] 46 := Blk.below (by (repeat' (first | (with_reducible assumption) | (with_reducible exact Blk.alloc_new _ _ _ (by first | rfl | (simp; done) | omega)) | (with_reducible refine Blk.drewN ?_ _) | (with_reducible refine Blk.drew ?_) | (with_reducible refine Blk.alloc_old ?_ _) | (with_reducible apply Blk.set_same) | (with_reducible refine Blk.set_other ?_ (by first | omega | (simp; done) | (simp; omega)) _) | (exact rfl)))) hb4 (by first | (simp; done) | omega | (simp; omega))
    have L4 : Blk w4 (w1.heap.size) #[.int .u64 X, .int .u64 (hi (Y)), .int .u64 (lo (Y)), .int .u64 M] 44 := Blk.below (by (repeat' (first | (with_reducible assumption) | (with_reducible exact Blk.alloc_new _ _ _ (by first | rfl | (simp; done) | omega)) | (with_reducible refine Blk.drewN ?_ _) | (with_reducible refine Blk.drew ?_) | (with_reducible refine Blk.alloc_old ?_ _) | (with_reducible apply Blk.set_same) | (with_reducible refine Blk.set_other ?_ (by first | omega | (simp; done) | (simp; omega)) _) | (exact rfl)))) hb4 (by first | (simp; done) | omega | (simp; omega))
    have g4 : Below w.heap.size w w4 := by refine Below.trans ?_ (hb4.mono ?_) <;> (repeat' (first | (with_reducible exact Below.refl _ _) | (with_reducible assumption) | (with_reducible refine below_drewN ?_ _) | (with_reducible refine Below.drew ?_) | (with_reducible refine Below.alloc ?_ ?_ _) | (with_reducible refine Below.setCell ?_ ?_ _) | go_size))
    have hz4 := hb4.size
    (try simp at hz4)
    clear hb4
    replace cA := A4.cell
    replace fA := A4.frozen
    replace zA := A4.size
    replace cB := B4.cell
    replace fB := B4.frozen
    replace zB := B4.size
    replace cQ := Q4.cell
    replace fQ := Q4.frozen
    replace zQ := Q4.size
    replace cL := L4.cell
    replace fL := L4.frozen
    replace zL := L4.size
    go_wp2_with fail
    refine (wcmpC W Yb c4 _ hW hYb Hhc4.out).mono ?_
    rintro e w5 ⟨rfl, hb5⟩
    have A5 : Blk w5 (w.heap.size) #[.int .u64 Xa, .int .u64 (hi (Ya)), .int .u64 (lo (Ya)), .int .u64 Ma] 44 := Blk.below (by (repeat' (first | (with_reducible assumption) | (with_reducible exact Blk.alloc_new _ _ _ (by first | rfl | (simp; done) | omega)) | (with_reducible refine Blk.drewN ?_ _) | (with_reducible refine Blk.drew ?_) | (with_reducible refine Blk.alloc_old ?_ _) | (with_reducible apply Blk.set_same) | (with_reducible refine Blk.set_other ?_ (by first | omega | (simp; done) | (simp; omega)) _) | (exact rfl)))) hb5 (by first | (simp; done) | omega | (simp; omega))
    have B5 : Blk w5 (w.heap.size + 1) #[.int .u64 Xb, .int .u64 (hi (Yb)), .int .u64 (lo (Yb)), .int .u64 Ma] 44 := Blk.below (by (repeat' (first | (with_reducible assumption) | (with_reducible exact Blk.alloc_new _ _ _ (by first | rfl | (simp; done) | omega)) | (with_reducible refine Blk.drewN ?_ _) | (with_reducible refine Blk.drew ?_) | (with_reducible refine Blk.alloc_old ?_ _) | (with_reducible apply Blk.set_same) | (with_reducible refine Blk.set_other ?_ (by first | omega | (simp; done) | (simp; omega)) _) | (exact rfl)))) hb5 (by first | (simp; done) | omega | (simp; omega))
    have Q5 : Blk w5 (w.heap.size + 1 + 1) #[.int .u64 x, .int .u64 (hi (W)), .int .u64 (lo (W))] 46 := Blk.below (by (repeat' (first | (with_reducible assumption) | (with_reducible exact Blk.alloc_new _ _ _ (by first | rfl | (simp; done) | omega)) | (with_reducible refine Blk.drewN ?_ _) | (with_reducible refine Blk.drew ?_) | (with_reducible refine Blk.alloc_old ?_ _) | (with_reducible apply Blk.set_same) | (with_reducible refine Blk.set_other ?_ (by first | omega | (simp; done) | (simp; omega)) _) | (exact rfl)))) hb5 (by first | (simp; done) | omega | (simp; omega))
    have L5 : Blk w5 (w1.heap.size) #[.int .u64 X, .int .u64 (hi (Y)), .int .u64 (lo (Y)), .int .u64 M] 44 := Blk.below (by (repeat' (first | (with_reducible assumption) | (with_reducible exact Blk.alloc_new _ _ _ (by first | rfl | (simp; done) | omega)) | (with_reducible refine Blk.drewN ?_ _) | (with_reducible refine Blk.drew ?_) | (with_reducible refine Blk.alloc_old ?_ _) | (with_reducible apply Blk.set_same) | (with_reducible refine Blk.set_other ?_ (by first | omega | (simp; done) | (simp; omega)) _) | (exact rfl)))) hb5 (by first | (simp; done) | omega | (simp; omega))
    have g5 : Below w.heap.size w w5 := by refine Below.trans ?_ (hb5.mono ?_) <;> (repeat' (first | (with_reducible exact Below.refl _ _) | (with_reducible assumption) | (with_reducible refine below_drewN ?_ _) | (with_reducible refine Below.drew ?_) | (with_reducible refine Below.alloc ?_ ?_ _) | (with_reducible refine Below.setCell ?_ ?_ _) | go_size))
    have hz5 := hb5.size
    (try simp at hz5)
    clear hb5
    replace cA := A5.cell
    replace fA := A5.frozen
    replace zA := A5.size
    replace cB := B5.cell
    replace fB := B5.frozen
    replace zB := B5.size
    replace cQ := Q5.cell
    replace fQ := Q5.frozen
    replace zQ := Q5.size
    replace cL := L5.cell
    replace fL := L5.frozen
    replace zL := L5.size
    go_wp2_with fail
    refine wp_forget (fun v => Below w.heap.size w v ∧ Blk v (w.heap.size) #[.int .u64 Xa, .int .u64 (hi (Ya)), .int .u64 (lo (Ya)), .int .u64 Ma] 44 ∧ Blk v (w.heap.size + 1) #[.int .u64 Xb, .int .u64 (hi (Yb)), .int .u64 (lo (Yb)), .int .u64 Ma] 44 ∧ Blk v (w.heap.size + 1 + 1) #[.int .u64 x, .int .u64 (hi (W)), .int .u64 (lo (W))] 46 ∧ Blk v (w1.heap.size) #[.int .u64 X, .int .u64 (hi (Y)), .int .u64 (lo (Y)), .int .u64 M] 44) ⟨by (repeat' (first | (with_reducible exact Below.refl _ _) | (with_reducible assumption) | (with_reducible refine below_drewN ?_ _) | (with_reducible refine Below.drew ?_) | (with_reducible refine Below.alloc ?_ ?_ _) | (with_reducible refine Below.setCell ?_ ?_ _) | go_size)), by (repeat' (first | (with_reducible assumption) | (with_reducible exact Blk.alloc_new _ _ _ (by first | rfl | (simp; done) | omega)) | (with_reducible refine Blk.drewN ?_ _) | (with_reducible refine Blk.drew ?_) | (with_reducible refine Blk.alloc_old ?_ _) | (with_reducible apply Blk.set_same) | (with_reducible refine Blk.set_other ?_ (by first | omega | (simp; done) | (simp; omega)) _) | (exact rfl))), by (repeat' (first | (with_reducible assumption) | (with_reducible exact Blk.alloc_new _ _ _ (by first | rfl | (simp; done) | omega)) | (with_reducible refine Blk.drewN ?_ _) | (with_reducible refine Blk.drew ?_) | (with_reducible refine Blk.alloc_old ?_ _) | (with_reducible apply Blk.set_same) | (with_reducible refine Blk.set_other ?_ (by first | omega | (simp; done) | (simp; omega)) _) | (exact rfl))), by (repeat' (first | (with_reducible assumption) | (with_reducible exact Blk.alloc_new _ _ _ (by first | rfl | (simp; done) | omega)) | (with_reducible refine Blk.drewN ?_ _) | (with_reducible refine Blk.drew ?_) | (with_reducible refine Blk.alloc_old ?_ _) | (with_reducible apply Blk.set_same) | (with_reducible refine Blk.set_other ?_ (by first | omega | (simp; done) | (simp; omega)) _) | (exact rfl))), by (repeat' (first | (with_reducible assumption) | (with_reducible exact Blk.alloc_new _ _ _ (by first | rfl | (simp; done) | omega)) | (with_reducible refine Blk.drewN ?_ _) | (with_reducible refine Blk.drew ?_) | (with_reducible refine Blk.alloc_old ?_ _) | (with_reducible apply Blk.set_same) | (with_reducible refine Blk.set_other ?_ (by first | omega | (simp; done) | (simp; omega)) _) | (exact rfl)))⟩ ?_
    rintro v6 ⟨gv6, Av6, Bv6, Qv6, Lv6⟩
    have qA6 := blk_calm Av6
    have qB6 := blk_calm Bv6
    have qQ6 := blk_calm Qv6
    have qL6 := blk_calm Lv6
    refine wp_region_quiet_below (by kernel_rfl) (by kernel_rfl) ?_
    repeat (go_big_quiet_step ((first
        | (go_at_call 29; (with_reducible exact Calls.regrown_of (lreach X Y M W t _ hX hY hM hW Hht.out)))
        | (go_at_call 29; (with_reducible exact Calls.regrown_of (lreach Xa Ya Ma W ta _ hXa hYa hMa hW Hhta.out)))
        | (go_at_call 29; (with_reducible exact Calls.regrown_of (lreach Xb Yb Ma W tb _ hXb hYb hMa hW Hhtb.out)))
        | (go_at_call 33; (with_reducible exact Calls.regrown_of (ten_true _))))))
    refine wpQuiet_nil ?_
    intro _ hw'
    obtain ⟨pq, hw''⟩ := hw'
    subst hw''
    have hb6 := below_regrown v6 pq.d pq.os
    generalize Sort.grow (redrawn v6 pq.d) pq.os = w6 at *
    have A6 : Blk w6 (w.heap.size) #[.int .u64 Xa, .int .u64 (hi (Ya)), .int .u64 (lo (Ya)), .int .u64 Ma] 44 := Blk.below Av6 hb6 Av6.size
    have B6 : Blk w6 (w.heap.size + 1) #[.int .u64 Xb, .int .u64 (hi (Yb)), .int .u64 (lo (Yb)), .int .u64 Ma] 44 := Blk.below Bv6 hb6 Bv6.size
    have Q6 : Blk w6 (w.heap.size + 1 + 1) #[.int .u64 x, .int .u64 (hi (W)), .int .u64 (lo (W))] 46 := Blk.below Qv6 hb6 Qv6.size
    have L6 : Blk w6 (w1.heap.size) #[.int .u64 X, .int .u64 (hi (Y)), .int .u64 (lo (Y)), .int .u64 M] 44 := Blk.below Lv6 hb6 Lv6.size
    have g6 : Below w.heap.size w w6 := gv6.trans (hb6.mono gv6.size)
    have hz6 : w.heap.size ≤ w6.heap.size := g6.size
    clear hb6 gv6 Av6 qA6 Bv6 qB6 Qv6 qQ6 Lv6 qL6
    replace cA := A6.cell
    replace fA := A6.frozen
    replace zA := A6.size
    replace cB := B6.cell
    replace fB := B6.frozen
    replace zB := B6.size
    replace cQ := Q6.cell
    replace fQ := Q6.frozen
    replace zQ := Q6.size
    replace cL := L6.cell
    replace fL := L6.frozen
    replace zL := L6.size
    go_wp2
    go_ret
    exact ⟨rfl, by (repeat' (first | (with_reducible exact Below.refl _ _) | (with_reducible assumption) | (with_reducible refine below_drewN ?_ _) | (with_reducible refine Below.drew ?_) | (with_reducible refine Below.alloc ?_ ?_ _) | (with_reducible refine Below.setCell ?_ ?_ _) | go_size))⟩
set_option maxRecDepth 100000 in
set_option maxHeartbeats 2000000 in
theorem LL_ct (Xa Ya Ma Xb Yb Mb x W X Y M z s p q c1 c2 c3 c4 t ta tb : Int) (w : World) (e0 : decide (68719476736 ≤ hi Ya) = false) (e1 : decide (68719476736 ≤ hi Yb) = false) (e2 : decide (68719476736 ≤ hi W) = false) (e3 : decide (68719476736 ≤ Ma) = false) (hXa : 0 ≤ Xa ∧ Xa ≤ 18446744073709551615) (hYa : In128 Ya) (hMa : 0 ≤ Ma ∧ Ma ≤ 18446744073709551615) (hXb : 0 ≤ Xb ∧ Xb ≤ 18446744073709551615) (hYb : In128 Yb)  (hx : 0 ≤ x ∧ x ≤ 18446744073709551615) (hW : In128 W) (hY : In128 Y) (hX : 0 ≤ X ∧ X ≤ 18446744073709551615) (hM : 0 ≤ M ∧ M ≤ 18446744073709551615)
    (hr : (lowB Xa Ya Ma Xb Yb Ma = true ∧ X = Xb ∧ Y = Yb ∧ M = Ma) ∨ (lowB Xa Ya Ma Xb Yb Ma = false ∧ X = Xa ∧ Y = Ya ∧ M = Ma)) (hna : decide (X = Xa ∧ Y = Ya ∧ M = Ma) = !true) (hnb : true = true → decide (X = Xb ∧ Y = Yb ∧ M = Ma) = true)
    (hz : z = max x (max Xa Xb)) (hs : la X Y M z = s) (hp : la Xa Ya Ma z = p) (hq : la Xb Yb Ma z = q) (s1 : In128 s) (p1 : In128 p) (q1 : In128 q) (hc1 : cmp s p = c1) (hc2 : cmp s q = c2) (k1 : decide (0 < c1) = false) (k2 : decide (0 < c2) = false) (hc3 : cmp W Ya = c3) (k3 : decide (c3 ≤ 0) = false) (hc4 : cmp W Yb = c4) (k4 : decide (c4 ≤ 0) = false) (ht : lr X Y M W = t) (hta : lr Xa Ya Ma W = ta) (htb : lr Xb Yb Ma W = tb) (k5 : decide (ta < tb) = false) (k6 : (t == ta) = true) :
    Calls Try.prog 8 #[lv Xa Ya Ma, lv Xb Yb Mb, .agg #[.int .u64 x, .int .u64 (hi W), .int .u64 (lo W)]] w fun e w' => e = .returned (.bool true) ∧ Below w.heap.size w w' := by
  have Hhr := hide hr; have Hhs := hide hs; have Hhp := hide hp; have Hhq := hide hq; have Hhc1 := hide hc1; have Hhc2 := hide hc2; have Hhc3 := hide hc3; have Hhc4 := hide hc4; have Hht := hide ht; have Hhta := hide hta; have Hhtb := hide htb; clear hr hs hp hq hc1 hc2 hc3 hc4 ht hta htb
  have r1 := lneq X Y M Xa Ya Ma true hY hYa hna
  have r2 := lneq X Y M Xb Yb Ma false hY hYb (by rw [hnb rfl]; rfl)
  clear hna hnb
  have Hz := hide hz
  clear hz
  have k7 : ¬ ta < tb := of_decide_eq_false k5
  go_enter Try.func8, Try.ntmps8
  go_wp2_with fail
  refine (low_any Xa Ya Ma Xb Yb Ma X Y M _ hXa hYa hMa hXb hYb hMa Hhr.out).mono ?_
  rintro e w1 ⟨rfl, hb1⟩
  have A1 : Blk w1 (w.heap.size) #[.int .u64 Xa, .int .u64 (hi (Ya)), .int .u64 (lo (Ya)), .int .u64 Ma] 44 := Blk.below (by (repeat' (first | (with_reducible assumption) | (with_reducible exact Blk.alloc_new _ _ _ (by first | rfl | (simp; done) | omega)) | (with_reducible refine Blk.drewN ?_ _) | (with_reducible refine Blk.drew ?_) | (with_reducible refine Blk.alloc_old ?_ _) | (with_reducible apply Blk.set_same) | (with_reducible refine Blk.set_other ?_ (by first | omega | (simp; done) | (simp; omega)) _) | (exact rfl)))) hb1 (by first | (simp; done) | omega | (simp; omega))
  have B1 : Blk w1 (w.heap.size + 1) #[.int .u64 Xb, .int .u64 (hi (Yb)), .int .u64 (lo (Yb)), .int .u64 Ma] 44 := Blk.below (by (repeat' (first | (with_reducible assumption) | (with_reducible exact Blk.alloc_new _ _ _ (by first | rfl | (simp; done) | omega)) | (with_reducible refine Blk.drewN ?_ _) | (with_reducible refine Blk.drew ?_) | (with_reducible refine Blk.alloc_old ?_ _) | (with_reducible apply Blk.set_same) | (with_reducible refine Blk.set_other ?_ (by first | omega | (simp; done) | (simp; omega)) _) | (exact rfl)))) hb1 (by first | (simp; done) | omega | (simp; omega))
  have Q1 : Blk w1 (w.heap.size + 1 + 1) #[.int .u64 x, .int .u64 (hi (W)), .int .u64 (lo (W))] 46 := Blk.below (by (repeat' (first | (with_reducible assumption) | (with_reducible exact Blk.alloc_new _ _ _ (by first | rfl | (simp; done) | omega)) | (with_reducible refine Blk.drewN ?_ _) | (with_reducible refine Blk.drew ?_) | (with_reducible refine Blk.alloc_old ?_ _) | (with_reducible apply Blk.set_same) | (with_reducible refine Blk.set_other ?_ (by first | omega | (simp; done) | (simp; omega)) _) | (exact rfl)))) hb1 (by first | (simp; done) | omega | (simp; omega))
  have g1 : Below w.heap.size w w1 := by refine Below.trans ?_ (hb1.mono ?_) <;> (repeat' (first | (with_reducible exact Below.refl _ _) | (with_reducible assumption) | (with_reducible refine below_drewN ?_ _) | (with_reducible refine Below.drew ?_) | (with_reducible refine Below.alloc ?_ ?_ _) | (with_reducible refine Below.setCell ?_ ?_ _) | go_size))
  have hz1 := hb1.size
  (try simp at hz1)
  clear hb1
  replace cA := A1.cell
  replace fA := A1.frozen
  replace zA := A1.size
  replace cB := B1.cell
  replace fB := B1.frozen
  replace zB := B1.size
  replace cQ := Q1.cell
  replace fQ := Q1.frozen
  replace zQ := Q1.size
  go_upto_region 7 with (fail)
  go_cut [8] (fun p8 wx => p8 = .int .u64 z ∧ Below w.heap.size w wx ∧ Blk wx (w.heap.size) #[.int .u64 Xa, .int .u64 (hi (Ya)), .int .u64 (lo (Ya)), .int .u64 Ma] 44 ∧ Blk wx (w.heap.size + 1) #[.int .u64 Xb, .int .u64 (hi (Yb)), .int .u64 (lo (Yb)), .int .u64 Ma] 44 ∧ Blk wx (w.heap.size + 1 + 1) #[.int .u64 x, .int .u64 (hi (W)), .int .u64 (lo (W))] 46 ∧ Blk wx (w1.heap.size) #[.int .u64 X, .int .u64 (hi (Y)), .int .u64 (lo (Y)), .int .u64 M] 44)
  case first =>
    go_wp2_with fail
    all_goals
      go_meet
      refine ⟨?_, by (repeat' (first | (with_reducible exact Below.refl _ _) | (with_reducible assumption) | (with_reducible refine below_drewN ?_ _) | (with_reducible refine Below.drew ?_) | (with_reducible refine Below.alloc ?_ ?_ _) | (with_reducible refine Below.setCell ?_ ?_ _) | go_size)), by (repeat' (first | (with_reducible assumption) | (with_reducible exact Blk.alloc_new _ _ _ (by first | rfl | (simp; done) | omega)) | (with_reducible refine Blk.drewN ?_ _) | (with_reducible refine Blk.drew ?_) | (with_reducible refine Blk.alloc_old ?_ _) | (with_reducible apply Blk.set_same) | (with_reducible refine Blk.set_other ?_ (by first | omega | (simp; done) | (simp; omega)) _) | (exact rfl))), by (repeat' (first | (with_reducible assumption) | (with_reducible exact Blk.alloc_new _ _ _ (by first | rfl | (simp; done) | omega)) | (with_reducible refine Blk.drewN ?_ _) | (with_reducible refine Blk.drew ?_) | (with_reducible refine Blk.alloc_old ?_ _) | (with_reducible apply Blk.set_same) | (with_reducible refine Blk.set_other ?_ (by first | omega | (simp; done) | (simp; omega)) _) | (exact rfl))), by (repeat' (first | (with_reducible assumption) | (with_reducible exact Blk.alloc_new _ _ _ (by first | rfl | (simp; done) | omega)) | (with_reducible refine Blk.drewN ?_ _) | (with_reducible refine Blk.drew ?_) | (with_reducible refine Blk.alloc_old ?_ _) | (with_reducible apply Blk.set_same) | (with_reducible refine Blk.set_other ?_ (by first | omega | (simp; done) | (simp; omega)) _) | (exact rfl))), by (repeat' (first | (with_reducible assumption) | (with_reducible exact Blk.alloc_new _ _ _ (by first | rfl | (simp; done) | omega)) | (with_reducible refine Blk.drewN ?_ _) | (with_reducible refine Blk.drew ?_) | (with_reducible refine Blk.alloc_old ?_ _) | (with_reducible apply Blk.set_same) | (with_reducible refine Blk.set_other ?_ (by first | omega | (simp; done) | (simp; omega)) _) | (exact rfl)))⟩
      have := Hz.out
      first | rfl | (exact congrArg (Value.int .u64) (by omega))
  case rest =>
    obtain ⟨rfl, g2, A2, B2, Q2, L2⟩ := hcut
    have hz2 := g2.size
    have zrng : 0 ≤ z ∧ z ≤ 18446744073709551615 := by have := Hz.out; omega
    clear cA fA zA cB fB zB cQ fQ zQ A1 B1 Q1
    have zL0 := L2.size
    have cA := A2.cell; have fA := A2.frozen; have zA := A2.size
    have cB := B2.cell; have fB := B2.frozen; have zB := B2.size
    have cQ := Q2.cell; have fQ := Q2.frozen; have zQ := Q2.size
    have cL := L2.cell; have fL := L2.frozen; have zL := L2.size
    go_wp2_with fail
    refine wp_forget (fun v => Below w.heap.size w v ∧ Blk v (w.heap.size) #[.int .u64 Xa, .int .u64 (hi (Ya)), .int .u64 (lo (Ya)), .int .u64 Ma] 44 ∧ Blk v (w.heap.size + 1) #[.int .u64 Xb, .int .u64 (hi (Yb)), .int .u64 (lo (Yb)), .int .u64 Ma] 44 ∧ Blk v (w.heap.size + 1 + 1) #[.int .u64 x, .int .u64 (hi (W)), .int .u64 (lo (W))] 46 ∧ Blk v (w1.heap.size) #[.int .u64 X, .int .u64 (hi (Y)), .int .u64 (lo (Y)), .int .u64 M] 44) ⟨by (repeat' (first | (with_reducible exact Below.refl _ _) | (with_reducible assumption) | (with_reducible refine below_drewN ?_ _) | (with_reducible refine Below.drew ?_) | (with_reducible refine Below.alloc ?_ ?_ _) | (with_reducible refine Below.setCell ?_ ?_ _) | go_size)), by (repeat' (first | (with_reducible assumption) | (with_reducible exact Blk.alloc_new _ _ _ (by first | rfl | (simp; done) | omega)) | (with_reducible refine Blk.drewN ?_ _) | (with_reducible refine Blk.drew ?_) | (with_reducible refine Blk.alloc_old ?_ _) | (with_reducible apply Blk.set_same) | (with_reducible refine Blk.set_other ?_ (by first | omega | (simp; done) | (simp; omega)) _) | (exact rfl))), by (repeat' (first | (with_reducible assumption) | (with_reducible exact Blk.alloc_new _ _ _ (by first | rfl | (simp; done) | omega)) | (with_reducible refine Blk.drewN ?_ _) | (with_reducible refine Blk.drew ?_) | (with_reducible refine Blk.alloc_old ?_ _) | (with_reducible apply Blk.set_same) | (with_reducible refine Blk.set_other ?_ (by first | omega | (simp; done) | (simp; omega)) _) | (exact rfl))), by (repeat' (first | (with_reducible assumption) | (with_reducible exact Blk.alloc_new _ _ _ (by first | rfl | (simp; done) | omega)) | (with_reducible refine Blk.drewN ?_ _) | (with_reducible refine Blk.drew ?_) | (with_reducible refine Blk.alloc_old ?_ _) | (with_reducible apply Blk.set_same) | (with_reducible refine Blk.set_other ?_ (by first | omega | (simp; done) | (simp; omega)) _) | (exact rfl))), by (repeat' (first | (with_reducible assumption) | (with_reducible exact Blk.alloc_new _ _ _ (by first | rfl | (simp; done) | omega)) | (with_reducible refine Blk.drewN ?_ _) | (with_reducible refine Blk.drew ?_) | (with_reducible refine Blk.alloc_old ?_ _) | (with_reducible apply Blk.set_same) | (with_reducible refine Blk.set_other ?_ (by first | omega | (simp; done) | (simp; omega)) _) | (exact rfl)))⟩ ?_
    rintro v3 ⟨gv3, Av3, Bv3, Qv3, Lv3⟩
    have qA3 := blk_calm Av3
    have qB3 := blk_calm Bv3
    have qQ3 := blk_calm Qv3
    have qL3 := blk_calm Lv3
    refine wp_region_quiet_below (by kernel_rfl) (by kernel_rfl) ?_
    repeat (go_big_quiet_step ((first
        | (go_at_call 26; (with_reducible exact Calls.regrown_of (lat X Y M z s _ hX hY hM zrng Hhs.out)))
        | (go_at_call 26; (with_reducible exact Calls.regrown_of (lat Xa Ya Ma z p _ hXa hYa hMa zrng Hhp.out)))
        | (go_at_call 26; (with_reducible exact Calls.regrown_of (lat Xb Yb Ma z q _ hXb hYb hMa zrng Hhq.out)))
        | (go_at_call 34; (with_reducible exact Calls.regrown_of (wcmpC s p c1 _ s1 p1 Hhc1.out)))
        | (go_at_call 34; (with_reducible exact Calls.regrown_of (wcmpC s q c2 _ s1 q1 Hhc2.out))))))
    refine wpQuiet_nil ?_
    intro _ hw'
    obtain ⟨pq, hw''⟩ := hw'
    subst hw''
    have hb3 := below_regrown v3 pq.d pq.os
    generalize Sort.grow (redrawn v3 pq.d) pq.os = w3 at *
    have A3 : Blk w3 (w.heap.size) #[.int .u64 Xa, .int .u64 (hi (Ya)), .int .u64 (lo (Ya)), .int .u64 Ma] 44 := Blk.below Av3 hb3 Av3.size
    have B3 : Blk w3 (w.heap.size + 1) #[.int .u64 Xb, .int .u64 (hi (Yb)), .int .u64 (lo (Yb)), .int .u64 Ma] 44 := Blk.below Bv3 hb3 Bv3.size
    have Q3 : Blk w3 (w.heap.size + 1 + 1) #[.int .u64 x, .int .u64 (hi (W)), .int .u64 (lo (W))] 46 := Blk.below Qv3 hb3 Qv3.size
    have L3 : Blk w3 (w1.heap.size) #[.int .u64 X, .int .u64 (hi (Y)), .int .u64 (lo (Y)), .int .u64 M] 44 := Blk.below Lv3 hb3 Lv3.size
    have g3 : Below w.heap.size w w3 := gv3.trans (hb3.mono gv3.size)
    have hz3 : w.heap.size ≤ w3.heap.size := g3.size
    clear hb3 gv3 Av3 qA3 Bv3 qB3 Qv3 qQ3 Lv3 qL3
    replace cA := A3.cell
    replace fA := A3.frozen
    replace zA := A3.size
    replace cB := B3.cell
    replace fB := B3.frozen
    replace zB := B3.size
    replace cQ := Q3.cell
    replace fQ := Q3.frozen
    replace zQ := Q3.size
    replace cL := L3.cell
    replace fL := L3.frozen
    replace zL := L3.size
    go_wp2_with fail
    refine (wcmpC W Ya c3 _ hW hYa Hhc3.out).mono ?_
    rintro e w4 ⟨rfl, hb4⟩
    have A4 : Blk w4 (w.heap.size) #[.int .u64 Xa, .int .u64 (hi (Ya)), .int .u64 (lo (Ya)), .int .u64 Ma] 44 := Blk.below (by (repeat' (first | (with_reducible assumption) | (with_reducible exact Blk.alloc_new _ _ _ (by first | rfl | (simp; done) | omega)) | (with_reducible refine Blk.drewN ?_ _) | (with_reducible refine Blk.drew ?_) | (with_reducible refine Blk.alloc_old ?_ _) | (with_reducible apply Blk.set_same) | (with_reducible refine Blk.set_other ?_ (by first | omega | (simp; done) | (simp; omega)) _) | (exact rfl)))) hb4 (by first | (simp; done) | omega | (simp; omega))
    have B4 : Blk w4 (w.heap.size + 1) #[.int .u64 Xb, .int .u64 (hi (Yb)), .int .u64 (lo (Yb)), .int .u64 Ma] 44 := Blk.below (by (repeat' (first | (with_reducible assumption) | (with_reducible exact Blk.alloc_new _ _ _ (by first | rfl | (simp; done) | omega)) | (with_reducible refine Blk.drewN ?_ _) | (with_reducible refine Blk.drew ?_) | (with_reducible refine Blk.alloc_old ?_ _) | (with_reducible apply Blk.set_same) | (with_reducible refine Blk.set_other ?_ (by first | omega | (simp; done) | (simp; omega)) _) | (exact rfl)))) hb4 (by first | (simp; done) | omega | (simp; omega))
    have Q4 : Blk w4 (w.heap.size + 1 + 1) #[.int .u64 x, .int .u64 (hi (W)), .int .u64 (lo (W))] 46 := Blk.below (by (repeat' (first | (with_reducible assumption) | (with_reducible exact Blk.alloc_new _ _ _ (by first | rfl | (simp; done) | omega)) | (with_reducible refine Blk.drewN ?_ _) | (with_reducible refine Blk.drew ?_) | (with_reducible refine Blk.alloc_old ?_ _) | (with_reducible apply Blk.set_same) | (with_reducible refine Blk.set_other ?_ (by first | omega | (simp; done) | (simp; omega)) _) | (exact rfl)))) hb4 (by first | (simp; done) | omega | (simp; omega))
    have L4 : Blk w4 (w1.heap.size) #[.int .u64 X, .int .u64 (hi (Y)), .int .u64 (lo (Y)), .int .u64 M] 44 := Blk.below (by (repeat' (first | (with_reducible assumption) | (with_reducible exact Blk.alloc_new _ _ _ (by first | rfl | (simp; done) | omega)) | (with_reducible refine Blk.drewN ?_ _) | (with_reducible refine Blk.drew ?_) | (with_reducible refine Blk.alloc_old ?_ _) | (with_reducible apply Blk.set_same) | (with_reducible refine Blk.set_other ?_ (by first | omega | (simp; done) | (simp; omega)) _) | (exact rfl)))) hb4 (by first | (simp; done) | omega | (simp; omega))
    have g4 : Below w.heap.size w w4 := by refine Below.trans ?_ (hb4.mono ?_) <;> (repeat' (first | (with_reducible exact Below.refl _ _) | (with_reducible assumption) | (with_reducible refine below_drewN ?_ _) | (with_reducible refine Below.drew ?_) | (with_reducible refine Below.alloc ?_ ?_ _) | (with_reducible refine Below.setCell ?_ ?_ _) | go_size))
    have hz4 := hb4.size
    (try simp at hz4)
    clear hb4
    replace cA := A4.cell
    replace fA := A4.frozen
    replace zA := A4.size
    replace cB := B4.cell
    replace fB := B4.frozen
    replace zB := B4.size
    replace cQ := Q4.cell
    replace fQ := Q4.frozen
    replace zQ := Q4.size
    replace cL := L4.cell
    replace fL := L4.frozen
    replace zL := L4.size
    go_wp2_with fail
    refine (wcmpC W Yb c4 _ hW hYb Hhc4.out).mono ?_
    rintro e w5 ⟨rfl, hb5⟩
    have A5 : Blk w5 (w.heap.size) #[.int .u64 Xa, .int .u64 (hi (Ya)), .int .u64 (lo (Ya)), .int .u64 Ma] 44 := Blk.below (by (repeat' (first | (with_reducible assumption) | (with_reducible exact Blk.alloc_new _ _ _ (by first | rfl | (simp; done) | omega)) | (with_reducible refine Blk.drewN ?_ _) | (with_reducible refine Blk.drew ?_) | (with_reducible refine Blk.alloc_old ?_ _) | (with_reducible apply Blk.set_same) | (with_reducible refine Blk.set_other ?_ (by first | omega | (simp; done) | (simp; omega)) _) | (exact rfl)))) hb5 (by first | (simp; done) | omega | (simp; omega))
    have B5 : Blk w5 (w.heap.size + 1) #[.int .u64 Xb, .int .u64 (hi (Yb)), .int .u64 (lo (Yb)), .int .u64 Ma] 44 := Blk.below (by (repeat' (first | (with_reducible assumption) | (with_reducible exact Blk.alloc_new _ _ _ (by first | rfl | (simp; done) | omega)) | (with_reducible refine Blk.drewN ?_ _) | (with_reducible refine Blk.drew ?_) | (with_reducible refine Blk.alloc_old ?_ _) | (with_reducible apply Blk.set_same) | (with_reducible refine Blk.set_other ?_ (by first | omega | (simp; done) | (simp; omega)) _) | (exact rfl)))) hb5 (by first | (simp; done) | omega | (simp; omega))
    have Q5 : Blk w5 (w.heap.size + 1 + 1) #[.int .u64 x, .int .u64 (hi (W)), .int .u64 (lo (W))] 46 := Blk.below (by (repeat' (first | (with_reducible assumption) | (with_reducible exact Blk.alloc_new _ _ _ (by first | rfl | (simp; done) | omega)) | (with_reducible refine Blk.drewN ?_ _) | (with_reducible refine Blk.drew ?_) | (with_reducible refine Blk.alloc_old ?_ _) | (with_reducible apply Blk.set_same) | (with_reducible refine Blk.set_other ?_ (by first | omega | (simp; done) | (simp; omega)) _) | (exact rfl)))) hb5 (by first | (simp; done) | omega | (simp; omega))
    have L5 : Blk w5 (w1.heap.size) #[.int .u64 X, .int .u64 (hi (Y)), .int .u64 (lo (Y)), .int .u64 M] 44 := Blk.below (by (repeat' (first | (with_reducible assumption) | (with_reducible exact Blk.alloc_new _ _ _ (by first | rfl | (simp; done) | omega)) | (with_reducible refine Blk.drewN ?_ _) | (with_reducible refine Blk.drew ?_) | (with_reducible refine Blk.alloc_old ?_ _) | (with_reducible apply Blk.set_same) | (with_reducible refine Blk.set_other ?_ (by first | omega | (simp; done) | (simp; omega)) _) | (exact rfl)))) hb5 (by first | (simp; done) | omega | (simp; omega))
    have g5 : Below w.heap.size w w5 := by refine Below.trans ?_ (hb5.mono ?_) <;> (repeat' (first | (with_reducible exact Below.refl _ _) | (with_reducible assumption) | (with_reducible refine below_drewN ?_ _) | (with_reducible refine Below.drew ?_) | (with_reducible refine Below.alloc ?_ ?_ _) | (with_reducible refine Below.setCell ?_ ?_ _) | go_size))
    have hz5 := hb5.size
    (try simp at hz5)
    clear hb5
    replace cA := A5.cell
    replace fA := A5.frozen
    replace zA := A5.size
    replace cB := B5.cell
    replace fB := B5.frozen
    replace zB := B5.size
    replace cQ := Q5.cell
    replace fQ := Q5.frozen
    replace zQ := Q5.size
    replace cL := L5.cell
    replace fL := L5.frozen
    replace zL := L5.size
    go_wp2_with fail
    refine wp_forget (fun v => Below w.heap.size w v ∧ Blk v (w.heap.size) #[.int .u64 Xa, .int .u64 (hi (Ya)), .int .u64 (lo (Ya)), .int .u64 Ma] 44 ∧ Blk v (w.heap.size + 1) #[.int .u64 Xb, .int .u64 (hi (Yb)), .int .u64 (lo (Yb)), .int .u64 Ma] 44 ∧ Blk v (w.heap.size + 1 + 1) #[.int .u64 x, .int .u64 (hi (W)), .int .u64 (lo (W))] 46 ∧ Blk v (w1.heap.size) #[.int .u64 X, .int .u64 (hi (Y)), .int .u64 (lo (Y)), .int .u64 M] 44) ⟨by (repeat' (first | (with_reducible exact Below.refl _ _) | (with_reducible assumption) | (with_reducible refine below_drewN ?_ _) | (with_reducible refine Below.drew ?_) | (with_reducible refine Below.alloc ?_ ?_ _) | (with_reducible refine Below.setCell ?_ ?_ _) | go_size)), by (repeat' (first | (with_reducible assumption) | (with_reducible exact Blk.alloc_new _ _ _ (by first | rfl | (simp; done) | omega)) | (with_reducible refine Blk.drewN ?_ _) | (with_reducible refine Blk.drew ?_) | (with_reducible refine Blk.alloc_old ?_ _) | (with_reducible apply Blk.set_same) | (with_reducible refine Blk.set_other ?_ (by first | omega | (simp; done) | (simp; omega)) _) | (exact rfl))), by (repeat' (first | (with_reducible assumption) | (with_reducible exact Blk.alloc_new _ _ _ (by first | rfl | (simp; done) | omega)) | (with_reducible refine Blk.drewN ?_ _) | (with_reducible refine Blk.drew ?_) | (with_reducible refine Blk.alloc_old ?_ _) | (with_reducible apply Blk.set_same) | (with_reducible refine Blk.set_other ?_ (by first | omega | (simp; done) | (simp; omega)) _) | (exact rfl))), by (repeat' (first | (with_reducible assumption) | (with_reducible exact Blk.alloc_new _ _ _ (by first | rfl | (simp; done) | omega)) | (with_reducible refine Blk.drewN ?_ _) | (with_reducible refine Blk.drew ?_) | (with_reducible refine Blk.alloc_old ?_ _) | (with_reducible apply Blk.set_same) | (with_reducible refine Blk.set_other ?_ (by first | omega | (simp; done) | (simp; omega)) _) | (exact rfl))), by (repeat' (first | (with_reducible assumption) | (with_reducible exact Blk.alloc_new _ _ _ (by first | rfl | (simp; done) | omega)) | (with_reducible refine Blk.drewN ?_ _) | (with_reducible refine Blk.drew ?_) | (with_reducible refine Blk.alloc_old ?_ _) | (with_reducible apply Blk.set_same) | (with_reducible refine Blk.set_other ?_ (by first | omega | (simp; done) | (simp; omega)) _) | (exact rfl)))⟩ ?_
    rintro v6 ⟨gv6, Av6, Bv6, Qv6, Lv6⟩
    have qA6 := blk_calm Av6
    have qB6 := blk_calm Bv6
    have qQ6 := blk_calm Qv6
    have qL6 := blk_calm Lv6
    refine wp_region_quiet_below (by kernel_rfl) (by kernel_rfl) ?_
    repeat (go_big_quiet_step ((first
        | (go_at_call 29; (with_reducible exact Calls.regrown_of (lreach X Y M W t _ hX hY hM hW Hht.out)))
        | (go_at_call 29; (with_reducible exact Calls.regrown_of (lreach Xa Ya Ma W ta _ hXa hYa hMa hW Hhta.out)))
        | (go_at_call 29; (with_reducible exact Calls.regrown_of (lreach Xb Yb Ma W tb _ hXb hYb hMa hW Hhtb.out)))
        | (go_at_call 33; (with_reducible exact Calls.regrown_of (ten_true _))))))
    refine wpQuiet_nil ?_
    intro _ hw'
    obtain ⟨pq, hw''⟩ := hw'
    subst hw''
    have hb6 := below_regrown v6 pq.d pq.os
    generalize Sort.grow (redrawn v6 pq.d) pq.os = w6 at *
    have A6 : Blk w6 (w.heap.size) #[.int .u64 Xa, .int .u64 (hi (Ya)), .int .u64 (lo (Ya)), .int .u64 Ma] 44 := Blk.below Av6 hb6 Av6.size
    have B6 : Blk w6 (w.heap.size + 1) #[.int .u64 Xb, .int .u64 (hi (Yb)), .int .u64 (lo (Yb)), .int .u64 Ma] 44 := Blk.below Bv6 hb6 Bv6.size
    have Q6 : Blk w6 (w.heap.size + 1 + 1) #[.int .u64 x, .int .u64 (hi (W)), .int .u64 (lo (W))] 46 := Blk.below Qv6 hb6 Qv6.size
    have L6 : Blk w6 (w1.heap.size) #[.int .u64 X, .int .u64 (hi (Y)), .int .u64 (lo (Y)), .int .u64 M] 44 := Blk.below Lv6 hb6 Lv6.size
    have g6 : Below w.heap.size w w6 := gv6.trans (hb6.mono gv6.size)
    have hz6 : w.heap.size ≤ w6.heap.size := g6.size
    clear hb6 gv6 Av6 qA6 Bv6 qB6 Qv6 qQ6 Lv6 qL6
    replace cA := A6.cell
    replace fA := A6.frozen
    replace zA := A6.size
    replace cB := B6.cell
    replace fB := B6.frozen
    replace zB := B6.size
    replace cQ := Q6.cell
    replace fQ := Q6.frozen
    replace zQ := Q6.size
    replace cL := L6.cell
    replace fL := L6.frozen
    replace zL := L6.size
    go_wp2
    go_ret
    exact ⟨rfl, by (repeat' (first | (with_reducible exact Below.refl _ _) | (with_reducible assumption) | (with_reducible refine below_drewN ?_ _) | (with_reducible refine Below.drew ?_) | (with_reducible refine Below.alloc ?_ ?_ _) | (with_reducible refine Below.setCell ?_ ?_ _) | go_size))⟩
set_option maxRecDepth 100000 in
set_option maxHeartbeats 2000000 in
theorem LL_df (Xa Ya Ma Xb Yb Mb x W X Y M z s p q c1 c2 c3 c4 t ta tb : Int) (w : World) (e0 : decide (68719476736 ≤ hi Ya) = false) (e1 : decide (68719476736 ≤ hi Yb) = false) (e2 : decide (68719476736 ≤ hi W) = false) (e3 : decide (68719476736 ≤ Ma) = false) (hXa : 0 ≤ Xa ∧ Xa ≤ 18446744073709551615) (hYa : In128 Ya) (hMa : 0 ≤ Ma ∧ Ma ≤ 18446744073709551615) (hXb : 0 ≤ Xb ∧ Xb ≤ 18446744073709551615) (hYb : In128 Yb)  (hx : 0 ≤ x ∧ x ≤ 18446744073709551615) (hW : In128 W) (hY : In128 Y) (hX : 0 ≤ X ∧ X ≤ 18446744073709551615) (hM : 0 ≤ M ∧ M ≤ 18446744073709551615)
    (hr : (lowB Xa Ya Ma Xb Yb Ma = true ∧ X = Xb ∧ Y = Yb ∧ M = Ma) ∨ (lowB Xa Ya Ma Xb Yb Ma = false ∧ X = Xa ∧ Y = Ya ∧ M = Ma)) (hna : decide (X = Xa ∧ Y = Ya ∧ M = Ma) = !false) (hnb : false = true → decide (X = Xb ∧ Y = Yb ∧ M = Ma) = true)
    (hz : z = max x (max Xa Xb)) (hs : la X Y M z = s) (hp : la Xa Ya Ma z = p) (hq : la Xb Yb Ma z = q) (s1 : In128 s) (p1 : In128 p) (q1 : In128 q) (hc1 : cmp s p = c1) (hc2 : cmp s q = c2) (k1 : decide (0 < c1) = false) (k2 : decide (0 < c2) = false) (hc3 : cmp W Ya = c3) (k3 : decide (c3 ≤ 0) = false) (hc4 : cmp W Yb = c4) (k4 : decide (c4 ≤ 0) = false) (ht : lr X Y M W = t) (hta : lr Xa Ya Ma W = ta) (htb : lr Xb Yb Ma W = tb) (k5 : decide (ta < tb) = true) (k6 : (t == tb) = true) :
    Calls Try.prog 8 #[lv Xa Ya Ma, lv Xb Yb Mb, .agg #[.int .u64 x, .int .u64 (hi W), .int .u64 (lo W)]] w fun e w' => e = .returned (.bool true) ∧ Below w.heap.size w w' := by
  have Hhr := hide hr; have Hhs := hide hs; have Hhp := hide hp; have Hhq := hide hq; have Hhc1 := hide hc1; have Hhc2 := hide hc2; have Hhc3 := hide hc3; have Hhc4 := hide hc4; have Hht := hide ht; have Hhta := hide hta; have Hhtb := hide htb; clear hr hs hp hq hc1 hc2 hc3 hc4 ht hta htb
  have r1 := lneq X Y M Xa Ya Ma false hY hYa hna
  clear hna hnb
  have Hz := hide hz
  clear hz
  have k7 : ta < tb := of_decide_eq_true k5
  go_enter Try.func8, Try.ntmps8
  go_wp2_with fail
  refine (low_any Xa Ya Ma Xb Yb Ma X Y M _ hXa hYa hMa hXb hYb hMa Hhr.out).mono ?_
  rintro e w1 ⟨rfl, hb1⟩
  have A1 : Blk w1 (w.heap.size) #[.int .u64 Xa, .int .u64 (hi (Ya)), .int .u64 (lo (Ya)), .int .u64 Ma] 44 := Blk.below (by (repeat' (first | (with_reducible assumption) | (with_reducible exact Blk.alloc_new _ _ _ (by first | rfl | (simp; done) | omega)) | (with_reducible refine Blk.drewN ?_ _) | (with_reducible refine Blk.drew ?_) | (with_reducible refine Blk.alloc_old ?_ _) | (with_reducible apply Blk.set_same) | (with_reducible refine Blk.set_other ?_ (by first | omega | (simp; done) | (simp; omega)) _) | (exact rfl)))) hb1 (by first | (simp; done) | omega | (simp; omega))
  have B1 : Blk w1 (w.heap.size + 1) #[.int .u64 Xb, .int .u64 (hi (Yb)), .int .u64 (lo (Yb)), .int .u64 Ma] 44 := Blk.below (by (repeat' (first | (with_reducible assumption) | (with_reducible exact Blk.alloc_new _ _ _ (by first | rfl | (simp; done) | omega)) | (with_reducible refine Blk.drewN ?_ _) | (with_reducible refine Blk.drew ?_) | (with_reducible refine Blk.alloc_old ?_ _) | (with_reducible apply Blk.set_same) | (with_reducible refine Blk.set_other ?_ (by first | omega | (simp; done) | (simp; omega)) _) | (exact rfl)))) hb1 (by first | (simp; done) | omega | (simp; omega))
  have Q1 : Blk w1 (w.heap.size + 1 + 1) #[.int .u64 x, .int .u64 (hi (W)), .int .u64 (lo (W))] 46 := Blk.below (by (repeat' (first | (with_reducible assumption) | (with_reducible exact Blk.alloc_new _ _ _ (by first | rfl | (simp; done) | omega)) | (with_reducible refine Blk.drewN ?_ _) | (with_reducible refine Blk.drew ?_) | (with_reducible refine Blk.alloc_old ?_ _) | (with_reducible apply Blk.set_same) | (with_reducible refine Blk.set_other ?_ (by first | omega | (simp; done) | (simp; omega)) _) | (exact rfl)))) hb1 (by first | (simp; done) | omega | (simp; omega))
  have g1 : Below w.heap.size w w1 := by refine Below.trans ?_ (hb1.mono ?_) <;> (repeat' (first | (with_reducible exact Below.refl _ _) | (with_reducible assumption) | (with_reducible refine below_drewN ?_ _) | (with_reducible refine Below.drew ?_) | (with_reducible refine Below.alloc ?_ ?_ _) | (with_reducible refine Below.setCell ?_ ?_ _) | go_size))
  have hz1 := hb1.size
  (try simp at hz1)
  clear hb1
  replace cA := A1.cell
  replace fA := A1.frozen
  replace zA := A1.size
  replace cB := B1.cell
  replace fB := B1.frozen
  replace zB := B1.size
  replace cQ := Q1.cell
  replace fQ := Q1.frozen
  replace zQ := Q1.size
  go_upto_region 7 with (fail)
  go_cut [8] (fun p8 wx => p8 = .int .u64 z ∧ Below w.heap.size w wx ∧ Blk wx (w.heap.size) #[.int .u64 Xa, .int .u64 (hi (Ya)), .int .u64 (lo (Ya)), .int .u64 Ma] 44 ∧ Blk wx (w.heap.size + 1) #[.int .u64 Xb, .int .u64 (hi (Yb)), .int .u64 (lo (Yb)), .int .u64 Ma] 44 ∧ Blk wx (w.heap.size + 1 + 1) #[.int .u64 x, .int .u64 (hi (W)), .int .u64 (lo (W))] 46 ∧ Blk wx (w1.heap.size) #[.int .u64 X, .int .u64 (hi (Y)), .int .u64 (lo (Y)), .int .u64 M] 44)
  case first =>
    go_wp2_with fail
    all_goals
      go_meet
      refine ⟨?_, by (repeat' (first | (with_reducible exact Below.refl _ _) | (with_reducible assumption) | (with_reducible refine below_drewN ?_ _) | (with_reducible refine Below.drew ?_) | (with_reducible refine Below.alloc ?_ ?_ _) | (with_reducible refine Below.setCell ?_ ?_ _) | go_size)), by (repeat' (first | (with_reducible assumption) | (with_reducible exact Blk.alloc_new _ _ _ (by first | rfl | (simp; done) | omega)) | (with_reducible refine Blk.drewN ?_ _) | (with_reducible refine Blk.drew ?_) | (with_reducible refine Blk.alloc_old ?_ _) | (with_reducible apply Blk.set_same) | (with_reducible refine Blk.set_other ?_ (by first | omega | (simp; done) | (simp; omega)) _) | (exact rfl))), by (repeat' (first | (with_reducible assumption) | (with_reducible exact Blk.alloc_new _ _ _ (by first | rfl | (simp; done) | omega)) | (with_reducible refine Blk.drewN ?_ _) | (with_reducible refine Blk.drew ?_) | (with_reducible refine Blk.alloc_old ?_ _) | (with_reducible apply Blk.set_same) | (with_reducible refine Blk.set_other ?_ (by first | omega | (simp; done) | (simp; omega)) _) | (exact rfl))), by (repeat' (first | (with_reducible assumption) | (with_reducible exact Blk.alloc_new _ _ _ (by first | rfl | (simp; done) | omega)) | (with_reducible refine Blk.drewN ?_ _) | (with_reducible refine Blk.drew ?_) | (with_reducible refine Blk.alloc_old ?_ _) | (with_reducible apply Blk.set_same) | (with_reducible refine Blk.set_other ?_ (by first | omega | (simp; done) | (simp; omega)) _) | (exact rfl))), by (repeat' (first | (with_reducible assumption) | (with_reducible exact Blk.alloc_new _ _ _ (by first | rfl | (simp; done) | omega)) | (with_reducible refine Blk.drewN ?_ _) | (with_reducible refine Blk.drew ?_) | (with_reducible refine Blk.alloc_old ?_ _) | (with_reducible apply Blk.set_same) | (with_reducible refine Blk.set_other ?_ (by first | omega | (simp; done) | (simp; omega)) _) | (exact rfl)))⟩
      have := Hz.out
      first | rfl | (exact congrArg (Value.int .u64) (by omega))
  case rest =>
    obtain ⟨rfl, g2, A2, B2, Q2, L2⟩ := hcut
    have hz2 := g2.size
    have zrng : 0 ≤ z ∧ z ≤ 18446744073709551615 := by have := Hz.out; omega
    clear cA fA zA cB fB zB cQ fQ zQ A1 B1 Q1
    have zL0 := L2.size
    have cA := A2.cell; have fA := A2.frozen; have zA := A2.size
    have cB := B2.cell; have fB := B2.frozen; have zB := B2.size
    have cQ := Q2.cell; have fQ := Q2.frozen; have zQ := Q2.size
    have cL := L2.cell; have fL := L2.frozen; have zL := L2.size
    go_wp2_with fail
    refine wp_forget (fun v => Below w.heap.size w v ∧ Blk v (w.heap.size) #[.int .u64 Xa, .int .u64 (hi (Ya)), .int .u64 (lo (Ya)), .int .u64 Ma] 44 ∧ Blk v (w.heap.size + 1) #[.int .u64 Xb, .int .u64 (hi (Yb)), .int .u64 (lo (Yb)), .int .u64 Ma] 44 ∧ Blk v (w.heap.size + 1 + 1) #[.int .u64 x, .int .u64 (hi (W)), .int .u64 (lo (W))] 46 ∧ Blk v (w1.heap.size) #[.int .u64 X, .int .u64 (hi (Y)), .int .u64 (lo (Y)), .int .u64 M] 44) ⟨by (repeat' (first | (with_reducible exact Below.refl _ _) | (with_reducible assumption) | (with_reducible refine below_drewN ?_ _) | (with_reducible refine Below.drew ?_) | (with_reducible refine Below.alloc ?_ ?_ _) | (with_reducible refine Below.setCell ?_ ?_ _) | go_size)), by (repeat' (first | (with_reducible assumption) | (with_reducible exact Blk.alloc_new _ _ _ (by first | rfl | (simp; done) | omega)) | (with_reducible refine Blk.drewN ?_ _) | (with_reducible refine Blk.drew ?_) | (with_reducible refine Blk.alloc_old ?_ _) | (with_reducible apply Blk.set_same) | (with_reducible refine Blk.set_other ?_ (by first | omega | (simp; done) | (simp; omega)) _) | (exact rfl))), by (repeat' (first | (with_reducible assumption) | (with_reducible exact Blk.alloc_new _ _ _ (by first | rfl | (simp; done) | omega)) | (with_reducible refine Blk.drewN ?_ _) | (with_reducible refine Blk.drew ?_) | (with_reducible refine Blk.alloc_old ?_ _) | (with_reducible apply Blk.set_same) | (with_reducible refine Blk.set_other ?_ (by first | omega | (simp; done) | (simp; omega)) _) | (exact rfl))), by (repeat' (first | (with_reducible assumption) | (with_reducible exact Blk.alloc_new _ _ _ (by first | rfl | (simp; done) | omega)) | (with_reducible refine Blk.drewN ?_ _) | (with_reducible refine Blk.drew ?_) | (with_reducible refine Blk.alloc_old ?_ _) | (with_reducible apply Blk.set_same) | (with_reducible refine Blk.set_other ?_ (by first | omega | (simp; done) | (simp; omega)) _) | (exact rfl))), by (repeat' (first | (with_reducible assumption) | (with_reducible exact Blk.alloc_new _ _ _ (by first | rfl | (simp; done) | omega)) | (with_reducible refine Blk.drewN ?_ _) | (with_reducible refine Blk.drew ?_) | (with_reducible refine Blk.alloc_old ?_ _) | (with_reducible apply Blk.set_same) | (with_reducible refine Blk.set_other ?_ (by first | omega | (simp; done) | (simp; omega)) _) | (exact rfl)))⟩ ?_
    rintro v3 ⟨gv3, Av3, Bv3, Qv3, Lv3⟩
    have qA3 := blk_calm Av3
    have qB3 := blk_calm Bv3
    have qQ3 := blk_calm Qv3
    have qL3 := blk_calm Lv3
    refine wp_region_quiet_below (by kernel_rfl) (by kernel_rfl) ?_
    repeat (go_big_quiet_step ((first
        | (go_at_call 26; (with_reducible exact Calls.regrown_of (lat X Y M z s _ hX hY hM zrng Hhs.out)))
        | (go_at_call 26; (with_reducible exact Calls.regrown_of (lat Xa Ya Ma z p _ hXa hYa hMa zrng Hhp.out)))
        | (go_at_call 26; (with_reducible exact Calls.regrown_of (lat Xb Yb Ma z q _ hXb hYb hMa zrng Hhq.out)))
        | (go_at_call 34; (with_reducible exact Calls.regrown_of (wcmpC s p c1 _ s1 p1 Hhc1.out)))
        | (go_at_call 34; (with_reducible exact Calls.regrown_of (wcmpC s q c2 _ s1 q1 Hhc2.out))))))
    refine wpQuiet_nil ?_
    intro _ hw'
    obtain ⟨pq, hw''⟩ := hw'
    subst hw''
    have hb3 := below_regrown v3 pq.d pq.os
    generalize Sort.grow (redrawn v3 pq.d) pq.os = w3 at *
    have A3 : Blk w3 (w.heap.size) #[.int .u64 Xa, .int .u64 (hi (Ya)), .int .u64 (lo (Ya)), .int .u64 Ma] 44 := Blk.below Av3 hb3 Av3.size
    have B3 : Blk w3 (w.heap.size + 1) #[.int .u64 Xb, .int .u64 (hi (Yb)), .int .u64 (lo (Yb)), .int .u64 Ma] 44 := Blk.below Bv3 hb3 Bv3.size
    have Q3 : Blk w3 (w.heap.size + 1 + 1) #[.int .u64 x, .int .u64 (hi (W)), .int .u64 (lo (W))] 46 := Blk.below Qv3 hb3 Qv3.size
    have L3 : Blk w3 (w1.heap.size) #[.int .u64 X, .int .u64 (hi (Y)), .int .u64 (lo (Y)), .int .u64 M] 44 := Blk.below Lv3 hb3 Lv3.size
    have g3 : Below w.heap.size w w3 := gv3.trans (hb3.mono gv3.size)
    have hz3 : w.heap.size ≤ w3.heap.size := g3.size
    clear hb3 gv3 Av3 qA3 Bv3 qB3 Qv3 qQ3 Lv3 qL3
    replace cA := A3.cell
    replace fA := A3.frozen
    replace zA := A3.size
    replace cB := B3.cell
    replace fB := B3.frozen
    replace zB := B3.size
    replace cQ := Q3.cell
    replace fQ := Q3.frozen
    replace zQ := Q3.size
    replace cL := L3.cell
    replace fL := L3.frozen
    replace zL := L3.size
    go_wp2_with fail
    refine (wcmpC W Ya c3 _ hW hYa Hhc3.out).mono ?_
    rintro e w4 ⟨rfl, hb4⟩
    have A4 : Blk w4 (w.heap.size) #[.int .u64 Xa, .int .u64 (hi (Ya)), .int .u64 (lo (Ya)), .int .u64 Ma] 44 := Blk.below (by (repeat' (first | (with_reducible assumption) | (with_reducible exact Blk.alloc_new _ _ _ (by first | rfl | (simp; done) | omega)) | (with_reducible refine Blk.drewN ?_ _) | (with_reducible refine Blk.drew ?_) | (with_reducible refine Blk.alloc_old ?_ _) | (with_reducible apply Blk.set_same) | (with_reducible refine Blk.set_other ?_ (by first | omega | (simp; done) | (simp; omega)) _) | (exact rfl)))) hb4 (by first | (simp; done) | omega | (simp; omega))
    have B4 : Blk w4 (w.heap.size + 1) #[.int .u64 Xb, .int .u64 (hi (Yb)), .int .u64 (lo (Yb)), .int .u64 Ma] 44 := Blk.below (by (repeat' (first | (with_reducible assumption) | (with_reducible exact Blk.alloc_new _ _ _ (by first | rfl | (simp; done) | omega)) | (with_reducible refine Blk.drewN ?_ _) | (with_reducible refine Blk.drew ?_) | (with_reducible refine Blk.alloc_old ?_ _) | (with_reducible apply Blk.set_same) | (with_reducible refine Blk.set_other ?_ (by first | omega | (simp; done) | (simp; omega)) _) | (exact rfl)))) hb4 (by first | (simp; done) | omega | (simp; omega))
    have Q4 : Blk w4 (w.heap.size + 1 + 1) #[.int .u64 x, .int .u64 (hi (W)), .int .u64 (lo (W))] 46 := Blk.below (by (repeat' (first | (with_reducible assumption) | (with_reducible exact Blk.alloc_new _ _ _ (by first | rfl | (simp; done) | omega)) | (with_reducible refine Blk.drewN ?_ _) | (with_reducible refine Blk.drew ?_) | (with_reducible refine Blk.alloc_old ?_ _) | (with_reducible apply Blk.set_same) | (with_reducible refine Blk.set_other ?_ (by first | omega | (simp; done) | (simp; omega)) _) | (exact rfl)))) hb4 (by first | (simp; done) | omega | (simp; omega))
    have L4 : Blk w4 (w1.heap.size) #[.int .u64 X, .int .u64 (hi (Y)), .int .u64 (lo (Y)), .int .u64 M] 44 := Blk.below (by (repeat' (first | (with_reducible assumption) | (with_reducible exact Blk.alloc_new _ _ _ (by first | rfl | (simp; done) | omega)) | (with_reducible refine Blk.drewN ?_ _) | (with_reducible refine Blk.drew ?_) | (with_reducible refine Blk.alloc_old ?_ _) | (with_reducible apply Blk.set_same) | (with_reducible refine Blk.set_other ?_ (by first | omega | (simp; done) | (simp; omega)) _) | (exact rfl)))) hb4 (by first | (simp; done) | omega | (simp; omega))
    have g4 : Below w.heap.size w w4 := by refine Below.trans ?_ (hb4.mono ?_) <;> (repeat' (first | (with_reducible exact Below.refl _ _) | (with_reducible assumption) | (with_reducible refine below_drewN ?_ _) | (with_reducible refine Below.drew ?_) | (with_reducible refine Below.alloc ?_ ?_ _) | (with_reducible refine Below.setCell ?_ ?_ _) | go_size))
    have hz4 := hb4.size
    (try simp at hz4)
    clear hb4
    replace cA := A4.cell
    replace fA := A4.frozen
    replace zA := A4.size
    replace cB := B4.cell
    replace fB := B4.frozen
    replace zB := B4.size
    replace cQ := Q4.cell
    replace fQ := Q4.frozen
    replace zQ := Q4.size
    replace cL := L4.cell
    replace fL := L4.frozen
    replace zL := L4.size
    go_wp2_with fail
    refine (wcmpC W Yb c4 _ hW hYb Hhc4.out).mono ?_
    rintro e w5 ⟨rfl, hb5⟩
    have A5 : Blk w5 (w.heap.size) #[.int .u64 Xa, .int .u64 (hi (Ya)), .int .u64 (lo (Ya)), .int .u64 Ma] 44 := Blk.below (by (repeat' (first | (with_reducible assumption) | (with_reducible exact Blk.alloc_new _ _ _ (by first | rfl | (simp; done) | omega)) | (with_reducible refine Blk.drewN ?_ _) | (with_reducible refine Blk.drew ?_) | (with_reducible refine Blk.alloc_old ?_ _) | (with_reducible apply Blk.set_same) | (with_reducible refine Blk.set_other ?_ (by first | omega | (simp; done) | (simp; omega)) _) | (exact rfl)))) hb5 (by first | (simp; done) | omega | (simp; omega))
    have B5 : Blk w5 (w.heap.size + 1) #[.int .u64 Xb, .int .u64 (hi (Yb)), .int .u64 (lo (Yb)), .int .u64 Ma] 44 := Blk.below (by (repeat' (first | (with_reducible assumption) | (with_reducible exact Blk.alloc_new _ _ _ (by first | rfl | (simp; done) | omega)) | (with_reducible refine Blk.drewN ?_ _) | (with_reducible refine Blk.drew ?_) | (with_reducible refine Blk.alloc_old ?_ _) | (with_reducible apply Blk.set_same) | (with_reducible refine Blk.set_other ?_ (by first | omega | (simp; done) | (simp; omega)) _) | (exact rfl)))) hb5 (by first | (simp; done) | omega | (simp; omega))
    have Q5 : Blk w5 (w.heap.size + 1 + 1) #[.int .u64 x, .int .u64 (hi (W)), .int .u64 (lo (W))] 46 := Blk.below (by (repeat' (first | (with_reducible assumption) | (with_reducible exact Blk.alloc_new _ _ _ (by first | rfl | (simp; done) | omega)) | (with_reducible refine Blk.drewN ?_ _) | (with_reducible refine Blk.drew ?_) | (with_reducible refine Blk.alloc_old ?_ _) | (with_reducible apply Blk.set_same) | (with_reducible refine Blk.set_other ?_ (by first | omega | (simp; done) | (simp; omega)) _) | (exact rfl)))) hb5 (by first | (simp; done) | omega | (simp; omega))
    have L5 : Blk w5 (w1.heap.size) #[.int .u64 X, .int .u64 (hi (Y)), .int .u64 (lo (Y)), .int .u64 M] 44 := Blk.below (by (repeat' (first | (with_reducible assumption) | (with_reducible exact Blk.alloc_new _ _ _ (by first | rfl | (simp; done) | omega)) | (with_reducible refine Blk.drewN ?_ _) | (with_reducible refine Blk.drew ?_) | (with_reducible refine Blk.alloc_old ?_ _) | (with_reducible apply Blk.set_same) | (with_reducible refine Blk.set_other ?_ (by first | omega | (simp; done) | (simp; omega)) _) | (exact rfl)))) hb5 (by first | (simp; done) | omega | (simp; omega))
    have g5 : Below w.heap.size w w5 := by refine Below.trans ?_ (hb5.mono ?_) <;> (repeat' (first | (with_reducible exact Below.refl _ _) | (with_reducible assumption) | (with_reducible refine below_drewN ?_ _) | (with_reducible refine Below.drew ?_) | (with_reducible refine Below.alloc ?_ ?_ _) | (with_reducible refine Below.setCell ?_ ?_ _) | go_size))
    have hz5 := hb5.size
    (try simp at hz5)
    clear hb5
    replace cA := A5.cell
    replace fA := A5.frozen
    replace zA := A5.size
    replace cB := B5.cell
    replace fB := B5.frozen
    replace zB := B5.size
    replace cQ := Q5.cell
    replace fQ := Q5.frozen
    replace zQ := Q5.size
    replace cL := L5.cell
    replace fL := L5.frozen
    replace zL := L5.size
    go_wp2_with fail
    refine wp_forget (fun v => Below w.heap.size w v ∧ Blk v (w.heap.size) #[.int .u64 Xa, .int .u64 (hi (Ya)), .int .u64 (lo (Ya)), .int .u64 Ma] 44 ∧ Blk v (w.heap.size + 1) #[.int .u64 Xb, .int .u64 (hi (Yb)), .int .u64 (lo (Yb)), .int .u64 Ma] 44 ∧ Blk v (w.heap.size + 1 + 1) #[.int .u64 x, .int .u64 (hi (W)), .int .u64 (lo (W))] 46 ∧ Blk v (w1.heap.size) #[.int .u64 X, .int .u64 (hi (Y)), .int .u64 (lo (Y)), .int .u64 M] 44) ⟨by (repeat' (first | (with_reducible exact Below.refl _ _) | (with_reducible assumption) | (with_reducible refine below_drewN ?_ _) | (with_reducible refine Below.drew ?_) | (with_reducible refine Below.alloc ?_ ?_ _) | (with_reducible refine Below.setCell ?_ ?_ _) | go_size)), by (repeat' (first | (with_reducible assumption) | (with_reducible exact Blk.alloc_new _ _ _ (by first | rfl | (simp; done) | omega)) | (with_reducible refine Blk.drewN ?_ _) | (with_reducible refine Blk.drew ?_) | (with_reducible refine Blk.alloc_old ?_ _) | (with_reducible apply Blk.set_same) | (with_reducible refine Blk.set_other ?_ (by first | omega | (simp; done) | (simp; omega)) _) | (exact rfl))), by (repeat' (first | (with_reducible assumption) | (with_reducible exact Blk.alloc_new _ _ _ (by first | rfl | (simp; done) | omega)) | (with_reducible refine Blk.drewN ?_ _) | (with_reducible refine Blk.drew ?_) | (with_reducible refine Blk.alloc_old ?_ _) | (with_reducible apply Blk.set_same) | (with_reducible refine Blk.set_other ?_ (by first | omega | (simp; done) | (simp; omega)) _) | (exact rfl))), by (repeat' (first | (with_reducible assumption) | (with_reducible exact Blk.alloc_new _ _ _ (by first | rfl | (simp; done) | omega)) | (with_reducible refine Blk.drewN ?_ _) | (with_reducible refine Blk.drew ?_) | (with_reducible refine Blk.alloc_old ?_ _) | (with_reducible apply Blk.set_same) | (with_reducible refine Blk.set_other ?_ (by first | omega | (simp; done) | (simp; omega)) _) | (exact rfl))), by (repeat' (first | (with_reducible assumption) | (with_reducible exact Blk.alloc_new _ _ _ (by first | rfl | (simp; done) | omega)) | (with_reducible refine Blk.drewN ?_ _) | (with_reducible refine Blk.drew ?_) | (with_reducible refine Blk.alloc_old ?_ _) | (with_reducible apply Blk.set_same) | (with_reducible refine Blk.set_other ?_ (by first | omega | (simp; done) | (simp; omega)) _) | (exact rfl)))⟩ ?_
    rintro v6 ⟨gv6, Av6, Bv6, Qv6, Lv6⟩
    have qA6 := blk_calm Av6
    have qB6 := blk_calm Bv6
    have qQ6 := blk_calm Qv6
    have qL6 := blk_calm Lv6
    refine wp_region_quiet_below (by kernel_rfl) (by kernel_rfl) ?_
    repeat (go_big_quiet_step ((first
        | (go_at_call 29; (with_reducible exact Calls.regrown_of (lreach X Y M W t _ hX hY hM hW Hht.out)))
        | (go_at_call 29; (with_reducible exact Calls.regrown_of (lreach Xa Ya Ma W ta _ hXa hYa hMa hW Hhta.out)))
        | (go_at_call 29; (with_reducible exact Calls.regrown_of (lreach Xb Yb Ma W tb _ hXb hYb hMa hW Hhtb.out)))
        | (go_at_call 33; (with_reducible exact Calls.regrown_of (ten_true _))))))
    refine wpQuiet_nil ?_
    intro _ hw'
    obtain ⟨pq, hw''⟩ := hw'
    subst hw''
    have hb6 := below_regrown v6 pq.d pq.os
    generalize Sort.grow (redrawn v6 pq.d) pq.os = w6 at *
    have A6 : Blk w6 (w.heap.size) #[.int .u64 Xa, .int .u64 (hi (Ya)), .int .u64 (lo (Ya)), .int .u64 Ma] 44 := Blk.below Av6 hb6 Av6.size
    have B6 : Blk w6 (w.heap.size + 1) #[.int .u64 Xb, .int .u64 (hi (Yb)), .int .u64 (lo (Yb)), .int .u64 Ma] 44 := Blk.below Bv6 hb6 Bv6.size
    have Q6 : Blk w6 (w.heap.size + 1 + 1) #[.int .u64 x, .int .u64 (hi (W)), .int .u64 (lo (W))] 46 := Blk.below Qv6 hb6 Qv6.size
    have L6 : Blk w6 (w1.heap.size) #[.int .u64 X, .int .u64 (hi (Y)), .int .u64 (lo (Y)), .int .u64 M] 44 := Blk.below Lv6 hb6 Lv6.size
    have g6 : Below w.heap.size w w6 := gv6.trans (hb6.mono gv6.size)
    have hz6 : w.heap.size ≤ w6.heap.size := g6.size
    clear hb6 gv6 Av6 qA6 Bv6 qB6 Qv6 qQ6 Lv6 qL6
    replace cA := A6.cell
    replace fA := A6.frozen
    replace zA := A6.size
    replace cB := B6.cell
    replace fB := B6.frozen
    replace zB := B6.size
    replace cQ := Q6.cell
    replace fQ := Q6.frozen
    replace zQ := Q6.size
    replace cL := L6.cell
    replace fL := L6.frozen
    replace zL := L6.size
    go_wp2
    go_ret
    exact ⟨rfl, by (repeat' (first | (with_reducible exact Below.refl _ _) | (with_reducible assumption) | (with_reducible refine below_drewN ?_ _) | (with_reducible refine Below.drew ?_) | (with_reducible refine Below.alloc ?_ ?_ _) | (with_reducible refine Below.setCell ?_ ?_ _) | go_size))⟩
set_option maxRecDepth 100000 in
set_option maxHeartbeats 2000000 in
theorem LL_dt (Xa Ya Ma Xb Yb Mb x W X Y M z s p q c1 c2 c3 c4 t ta tb : Int) (w : World) (e0 : decide (68719476736 ≤ hi Ya) = false) (e1 : decide (68719476736 ≤ hi Yb) = false) (e2 : decide (68719476736 ≤ hi W) = false) (e3 : decide (68719476736 ≤ Ma) = false) (hXa : 0 ≤ Xa ∧ Xa ≤ 18446744073709551615) (hYa : In128 Ya) (hMa : 0 ≤ Ma ∧ Ma ≤ 18446744073709551615) (hXb : 0 ≤ Xb ∧ Xb ≤ 18446744073709551615) (hYb : In128 Yb)  (hx : 0 ≤ x ∧ x ≤ 18446744073709551615) (hW : In128 W) (hY : In128 Y) (hX : 0 ≤ X ∧ X ≤ 18446744073709551615) (hM : 0 ≤ M ∧ M ≤ 18446744073709551615)
    (hr : (lowB Xa Ya Ma Xb Yb Ma = true ∧ X = Xb ∧ Y = Yb ∧ M = Ma) ∨ (lowB Xa Ya Ma Xb Yb Ma = false ∧ X = Xa ∧ Y = Ya ∧ M = Ma)) (hna : decide (X = Xa ∧ Y = Ya ∧ M = Ma) = !true) (hnb : true = true → decide (X = Xb ∧ Y = Yb ∧ M = Ma) = true)
    (hz : z = max x (max Xa Xb)) (hs : la X Y M z = s) (hp : la Xa Ya Ma z = p) (hq : la Xb Yb Ma z = q) (s1 : In128 s) (p1 : In128 p) (q1 : In128 q) (hc1 : cmp s p = c1) (hc2 : cmp s q = c2) (k1 : decide (0 < c1) = false) (k2 : decide (0 < c2) = false) (hc3 : cmp W Ya = c3) (k3 : decide (c3 ≤ 0) = false) (hc4 : cmp W Yb = c4) (k4 : decide (c4 ≤ 0) = false) (ht : lr X Y M W = t) (hta : lr Xa Ya Ma W = ta) (htb : lr Xb Yb Ma W = tb) (k5 : decide (ta < tb) = true) (k6 : (t == tb) = true) :
    Calls Try.prog 8 #[lv Xa Ya Ma, lv Xb Yb Mb, .agg #[.int .u64 x, .int .u64 (hi W), .int .u64 (lo W)]] w fun e w' => e = .returned (.bool true) ∧ Below w.heap.size w w' := by
  have Hhr := hide hr; have Hhs := hide hs; have Hhp := hide hp; have Hhq := hide hq; have Hhc1 := hide hc1; have Hhc2 := hide hc2; have Hhc3 := hide hc3; have Hhc4 := hide hc4; have Hht := hide ht; have Hhta := hide hta; have Hhtb := hide htb; clear hr hs hp hq hc1 hc2 hc3 hc4 ht hta htb
  have r1 := lneq X Y M Xa Ya Ma true hY hYa hna
  have r2 := lneq X Y M Xb Yb Ma false hY hYb (by rw [hnb rfl]; rfl)
  clear hna hnb
  have Hz := hide hz
  clear hz
  have k7 : ta < tb := of_decide_eq_true k5
  go_enter Try.func8, Try.ntmps8
  go_wp2_with fail
  refine (low_any Xa Ya Ma Xb Yb Ma X Y M _ hXa hYa hMa hXb hYb hMa Hhr.out).mono ?_
  rintro e w1 ⟨rfl, hb1⟩
  have A1 : Blk w1 (w.heap.size) #[.int .u64 Xa, .int .u64 (hi (Ya)), .int .u64 (lo (Ya)), .int .u64 Ma] 44 := Blk.below (by (repeat' (first | (with_reducible assumption) | (with_reducible exact Blk.alloc_new _ _ _ (by first | rfl | (simp; done) | omega)) | (with_reducible refine Blk.drewN ?_ _) | (with_reducible refine Blk.drew ?_) | (with_reducible refine Blk.alloc_old ?_ _) | (with_reducible apply Blk.set_same) | (with_reducible refine Blk.set_other ?_ (by first | omega | (simp; done) | (simp; omega)) _) | (exact rfl)))) hb1 (by first | (simp; done) | omega | (simp; omega))
  have B1 : Blk w1 (w.heap.size + 1) #[.int .u64 Xb, .int .u64 (hi (Yb)), .int .u64 (lo (Yb)), .int .u64 Ma] 44 := Blk.below (by (repeat' (first | (with_reducible assumption) | (with_reducible exact Blk.alloc_new _ _ _ (by first | rfl | (simp; done) | omega)) | (with_reducible refine Blk.drewN ?_ _) | (with_reducible refine Blk.drew ?_) | (with_reducible refine Blk.alloc_old ?_ _) | (with_reducible apply Blk.set_same) | (with_reducible refine Blk.set_other ?_ (by first | omega | (simp; done) | (simp; omega)) _) | (exact rfl)))) hb1 (by first | (simp; done) | omega | (simp; omega))
  have Q1 : Blk w1 (w.heap.size + 1 + 1) #[.int .u64 x, .int .u64 (hi (W)), .int .u64 (lo (W))] 46 := Blk.below (by (repeat' (first | (with_reducible assumption) | (with_reducible exact Blk.alloc_new _ _ _ (by first | rfl | (simp; done) | omega)) | (with_reducible refine Blk.drewN ?_ _) | (with_reducible refine Blk.drew ?_) | (with_reducible refine Blk.alloc_old ?_ _) | (with_reducible apply Blk.set_same) | (with_reducible refine Blk.set_other ?_ (by first | omega | (simp; done) | (simp; omega)) _) | (exact rfl)))) hb1 (by first | (simp; done) | omega | (simp; omega))
  have g1 : Below w.heap.size w w1 := by refine Below.trans ?_ (hb1.mono ?_) <;> (repeat' (first | (with_reducible exact Below.refl _ _) | (with_reducible assumption) | (with_reducible refine below_drewN ?_ _) | (with_reducible refine Below.drew ?_) | (with_reducible refine Below.alloc ?_ ?_ _) | (with_reducible refine Below.setCell ?_ ?_ _) | go_size))
  have hz1 := hb1.size
  (try simp at hz1)
  clear hb1
  replace cA := A1.cell
  replace fA := A1.frozen
  replace zA := A1.size
  replace cB := B1.cell
  replace fB := B1.frozen
  replace zB := B1.size
  replace cQ := Q1.cell
  replace fQ := Q1.frozen
  replace zQ := Q1.size
  go_upto_region 7 with (fail)
  go_cut [8] (fun p8 wx => p8 = .int .u64 z ∧ Below w.heap.size w wx ∧ Blk wx (w.heap.size) #[.int .u64 Xa, .int .u64 (hi (Ya)), .int .u64 (lo (Ya)), .int .u64 Ma] 44 ∧ Blk wx (w.heap.size + 1) #[.int .u64 Xb, .int .u64 (hi (Yb)), .int .u64 (lo (Yb)), .int .u64 Ma] 44 ∧ Blk wx (w.heap.size + 1 + 1) #[.int .u64 x, .int .u64 (hi (W)), .int .u64 (lo (W))] 46 ∧ Blk wx (w1.heap.size) #[.int .u64 X, .int .u64 (hi (Y)), .int .u64 (lo (Y)), .int .u64 M] 44)
  case first =>
    go_wp2_with fail
    all_goals
      go_meet
      refine ⟨?_, by (repeat' (first | (with_reducible exact Below.refl _ _) | (with_reducible assumption) | (with_reducible refine below_drewN ?_ _) | (with_reducible refine Below.drew ?_) | (with_reducible refine Below.alloc ?_ ?_ _) | (with_reducible refine Below.setCell ?_ ?_ _) | go_size)), by (repeat' (first | (with_reducible assumption) | (with_reducible exact Blk.alloc_new _ _ _ (by first | rfl | (simp; done) | omega)) | (with_reducible refine Blk.drewN ?_ _) | (with_reducible refine Blk.drew ?_) | (with_reducible refine Blk.alloc_old ?_ _) | (with_reducible apply Blk.set_same) | (with_reducible refine Blk.set_other ?_ (by first | omega | (simp; done) | (simp; omega)) _) | (exact rfl))), by (repeat' (first | (with_reducible assumption) | (with_reducible exact Blk.alloc_new _ _ _ (by first | rfl | (simp; done) | omega)) | (with_reducible refine Blk.drewN ?_ _) | (with_reducible refine Blk.drew ?_) | (with_reducible refine Blk.alloc_old ?_ _) | (with_reducible apply Blk.set_same) | (with_reducible refine Blk.set_other ?_ (by first | omega | (simp; done) | (simp; omega)) _) | (exact rfl))), by (repeat' (first | (with_reducible assumption) | (with_reducible exact Blk.alloc_new _ _ _ (by first | rfl | (simp; done) | omega)) | (with_reducible refine Blk.drewN ?_ _) | (with_reducible refine Blk.drew ?_) | (with_reducible refine Blk.alloc_old ?_ _) | (with_reducible apply Blk.set_same) | (with_reducible refine Blk.set_other ?_ (by first | omega | (simp; done) | (simp; omega)) _) | (exact rfl))), by (repeat' (first | (with_reducible assumption) | (with_reducible exact Blk.alloc_new _ _ _ (by first | rfl | (simp; done) | omega)) | (with_reducible refine Blk.drewN ?_ _) | (with_reducible refine Blk.drew ?_) | (with_reducible refine Blk.alloc_old ?_ _) | (with_reducible apply Blk.set_same) | (with_reducible refine Blk.set_other ?_ (by first | omega | (simp; done) | (simp; omega)) _) | (exact rfl)))⟩
      have := Hz.out
      first | rfl | (exact congrArg (Value.int .u64) (by omega))
  case rest =>
    obtain ⟨rfl, g2, A2, B2, Q2, L2⟩ := hcut
    have hz2 := g2.size
    have zrng : 0 ≤ z ∧ z ≤ 18446744073709551615 := by have := Hz.out; omega
    clear cA fA zA cB fB zB cQ fQ zQ A1 B1 Q1
    have zL0 := L2.size
    have cA := A2.cell; have fA := A2.frozen; have zA := A2.size
    have cB := B2.cell; have fB := B2.frozen; have zB := B2.size
    have cQ := Q2.cell; have fQ := Q2.frozen; have zQ := Q2.size
    have cL := L2.cell; have fL := L2.frozen; have zL := L2.size
    go_wp2_with fail
    refine wp_forget (fun v => Below w.heap.size w v ∧ Blk v (w.heap.size) #[.int .u64 Xa, .int .u64 (hi (Ya)), .int .u64 (lo (Ya)), .int .u64 Ma] 44 ∧ Blk v (w.heap.size + 1) #[.int .u64 Xb, .int .u64 (hi (Yb)), .int .u64 (lo (Yb)), .int .u64 Ma] 44 ∧ Blk v (w.heap.size + 1 + 1) #[.int .u64 x, .int .u64 (hi (W)), .int .u64 (lo (W))] 46 ∧ Blk v (w1.heap.size) #[.int .u64 X, .int .u64 (hi (Y)), .int .u64 (lo (Y)), .int .u64 M] 44) ⟨by (repeat' (first | (with_reducible exact Below.refl _ _) | (with_reducible assumption) | (with_reducible refine below_drewN ?_ _) | (with_reducible refine Below.drew ?_) | (with_reducible refine Below.alloc ?_ ?_ _) | (with_reducible refine Below.setCell ?_ ?_ _) | go_size)), by (repeat' (first | (with_reducible assumption) | (with_reducible exact Blk.alloc_new _ _ _ (by first | rfl | (simp; done) | omega)) | (with_reducible refine Blk.drewN ?_ _) | (with_reducible refine Blk.drew ?_) | (with_reducible refine Blk.alloc_old ?_ _) | (with_reducible apply Blk.set_same) | (with_reducible refine Blk.set_other ?_ (by first | omega | (simp; done) | (simp; omega)) _) | (exact rfl))), by (repeat' (first | (with_reducible assumption) | (with_reducible exact Blk.alloc_new _ _ _ (by first | rfl | (simp; done) | omega)) | (with_reducible refine Blk.drewN ?_ _) | (with_reducible refine Blk.drew ?_) | (with_reducible refine Blk.alloc_old ?_ _) | (with_reducible apply Blk.set_same) | (with_reducible refine Blk.set_other ?_ (by first | omega | (simp; done) | (simp; omega)) _) | (exact rfl))), by (repeat' (first | (with_reducible assumption) | (with_reducible exact Blk.alloc_new _ _ _ (by first | rfl | (simp; done) | omega)) | (with_reducible refine Blk.drewN ?_ _) | (with_reducible refine Blk.drew ?_) | (with_reducible refine Blk.alloc_old ?_ _) | (with_reducible apply Blk.set_same) | (with_reducible refine Blk.set_other ?_ (by first | omega | (simp; done) | (simp; omega)) _) | (exact rfl))), by (repeat' (first | (with_reducible assumption) | (with_reducible exact Blk.alloc_new _ _ _ (by first | rfl | (simp; done) | omega)) | (with_reducible refine Blk.drewN ?_ _) | (with_reducible refine Blk.drew ?_) | (with_reducible refine Blk.alloc_old ?_ _) | (with_reducible apply Blk.set_same) | (with_reducible refine Blk.set_other ?_ (by first | omega | (simp; done) | (simp; omega)) _) | (exact rfl)))⟩ ?_
    rintro v3 ⟨gv3, Av3, Bv3, Qv3, Lv3⟩
    have qA3 := blk_calm Av3
    have qB3 := blk_calm Bv3
    have qQ3 := blk_calm Qv3
    have qL3 := blk_calm Lv3
    refine wp_region_quiet_below (by kernel_rfl) (by kernel_rfl) ?_
    repeat (go_big_quiet_step ((first
        | (go_at_call 26; (with_reducible exact Calls.regrown_of (lat X Y M z s _ hX hY hM zrng Hhs.out)))
        | (go_at_call 26; (with_reducible exact Calls.regrown_of (lat Xa Ya Ma z p _ hXa hYa hMa zrng Hhp.out)))
        | (go_at_call 26; (with_reducible exact Calls.regrown_of (lat Xb Yb Ma z q _ hXb hYb hMa zrng Hhq.out)))
        | (go_at_call 34; (with_reducible exact Calls.regrown_of (wcmpC s p c1 _ s1 p1 Hhc1.out)))
        | (go_at_call 34; (with_reducible exact Calls.regrown_of (wcmpC s q c2 _ s1 q1 Hhc2.out))))))
    refine wpQuiet_nil ?_
    intro _ hw'
    obtain ⟨pq, hw''⟩ := hw'
    subst hw''
    have hb3 := below_regrown v3 pq.d pq.os
    generalize Sort.grow (redrawn v3 pq.d) pq.os = w3 at *
    have A3 : Blk w3 (w.heap.size) #[.int .u64 Xa, .int .u64 (hi (Ya)), .int .u64 (lo (Ya)), .int .u64 Ma] 44 := Blk.below Av3 hb3 Av3.size
    have B3 : Blk w3 (w.heap.size + 1) #[.int .u64 Xb, .int .u64 (hi (Yb)), .int .u64 (lo (Yb)), .int .u64 Ma] 44 := Blk.below Bv3 hb3 Bv3.size
    have Q3 : Blk w3 (w.heap.size + 1 + 1) #[.int .u64 x, .int .u64 (hi (W)), .int .u64 (lo (W))] 46 := Blk.below Qv3 hb3 Qv3.size
    have L3 : Blk w3 (w1.heap.size) #[.int .u64 X, .int .u64 (hi (Y)), .int .u64 (lo (Y)), .int .u64 M] 44 := Blk.below Lv3 hb3 Lv3.size
    have g3 : Below w.heap.size w w3 := gv3.trans (hb3.mono gv3.size)
    have hz3 : w.heap.size ≤ w3.heap.size := g3.size
    clear hb3 gv3 Av3 qA3 Bv3 qB3 Qv3 qQ3 Lv3 qL3
    replace cA := A3.cell
    replace fA := A3.frozen
    replace zA := A3.size
    replace cB := B3.cell
    replace fB := B3.frozen
    replace zB := B3.size
    replace cQ := Q3.cell
    replace fQ := Q3.frozen
    replace zQ := Q3.size
    replace cL := L3.cell
    replace fL := L3.frozen
    replace zL := L3.size
    go_wp2_with fail
    refine (wcmpC W Ya c3 _ hW hYa Hhc3.out).mono ?_
    rintro e w4 ⟨rfl, hb4⟩
    have A4 : Blk w4 (w.heap.size) #[.int .u64 Xa, .int .u64 (hi (Ya)), .int .u64 (lo (Ya)), .int .u64 Ma] 44 := Blk.below (by (repeat' (first | (with_reducible assumption) | (with_reducible exact Blk.alloc_new _ _ _ (by first | rfl | (simp; done) | omega)) | (with_reducible refine Blk.drewN ?_ _) | (with_reducible refine Blk.drew ?_) | (with_reducible refine Blk.alloc_old ?_ _) | (with_reducible apply Blk.set_same) | (with_reducible refine Blk.set_other ?_ (by first | omega | (simp; done) | (simp; omega)) _) | (exact rfl)))) hb4 (by first | (simp; done) | omega | (simp; omega))
    have B4 : Blk w4 (w.heap.size + 1) #[.int .u64 Xb, .int .u64 (hi (Yb)), .int .u64 (lo (Yb)), .int .u64 Ma] 44 := Blk.below (by (repeat' (first | (with_reducible assumption) | (with_reducible exact Blk.alloc_new _ _ _ (by first | rfl | (simp; done) | omega)) | (with_reducible refine Blk.drewN ?_ _) | (with_reducible refine Blk.drew ?_) | (with_reducible refine Blk.alloc_old ?_ _) | (with_reducible apply Blk.set_same) | (with_reducible refine Blk.set_other ?_ (by first | omega | (simp; done) | (simp; omega)) _) | (exact rfl)))) hb4 (by first | (simp; done) | omega | (simp; omega))
    have Q4 : Blk w4 (w.heap.size + 1 + 1) #[.int .u64 x, .int .u64 (hi (W)), .int .u64 (lo (W))] 46 := Blk.below (by (repeat' (first | (with_reducible assumption) | (with_reducible exact Blk.alloc_new _ _ _ (by first | rfl | (simp; done) | omega)) | (with_reducible refine Blk.drewN ?_ _) | (with_reducible refine Blk.drew ?_) | (with_reducible refine Blk.alloc_old ?_ _) | (with_reducible apply Blk.set_same) | (with_reducible refine Blk.set_other ?_ (by first | omega | (simp; done) | (simp; omega)) _) | (exact rfl)))) hb4 (by first | (simp; done) | omega | (simp; omega))
    have L4 : Blk w4 (w1.heap.size) #[.int .u64 X, .int .u64 (hi (Y)), .int .u64 (lo (Y)), .int .u64 M] 44 := Blk.below (by (repeat' (first | (with_reducible assumption) | (with_reducible exact Blk.alloc_new _ _ _ (by first | rfl | (simp; done) | omega)) | (with_reducible refine Blk.drewN ?_ _) | (with_reducible refine Blk.drew ?_) | (with_reducible refine Blk.alloc_old ?_ _) | (with_reducible apply Blk.set_same) | (with_reducible refine Blk.set_other ?_ (by first | omega | (simp; done) | (simp; omega)) _) | (exact rfl)))) hb4 (by first | (simp; done) | omega | (simp; omega))
    have g4 : Below w.heap.size w w4 := by refine Below.trans ?_ (hb4.mono ?_) <;> (repeat' (first | (with_reducible exact Below.refl _ _) | (with_reducible assumption) | (with_reducible refine below_drewN ?_ _) | (with_reducible refine Below.drew ?_) | (with_reducible refine Below.alloc ?_ ?_ _) | (with_reducible refine Below.setCell ?_ ?_ _) | go_size))
    have hz4 := hb4.size
    (try simp at hz4)
    clear hb4
    replace cA := A4.cell
    replace fA := A4.frozen
    replace zA := A4.size
    replace cB := B4.cell
    replace fB := B4.frozen
    replace zB := B4.size
    replace cQ := Q4.cell
    replace fQ := Q4.frozen
    replace zQ := Q4.size
    replace cL := L4.cell
    replace fL := L4.frozen
    replace zL := L4.size
    go_wp2_with fail
    refine (wcmpC W Yb c4 _ hW hYb Hhc4.out).mono ?_
    rintro e w5 ⟨rfl, hb5⟩
    have A5 : Blk w5 (w.heap.size) #[.int .u64 Xa, .int .u64 (hi (Ya)), .int .u64 (lo (Ya)), .int .u64 Ma] 44 := Blk.below (by (repeat' (first | (with_reducible assumption) | (with_reducible exact Blk.alloc_new _ _ _ (by first | rfl | (simp; done) | omega)) | (with_reducible refine Blk.drewN ?_ _) | (with_reducible refine Blk.drew ?_) | (with_reducible refine Blk.alloc_old ?_ _) | (with_reducible apply Blk.set_same) | (with_reducible refine Blk.set_other ?_ (by first | omega | (simp; done) | (simp; omega)) _) | (exact rfl)))) hb5 (by first | (simp; done) | omega | (simp; omega))
    have B5 : Blk w5 (w.heap.size + 1) #[.int .u64 Xb, .int .u64 (hi (Yb)), .int .u64 (lo (Yb)), .int .u64 Ma] 44 := Blk.below (by (repeat' (first | (with_reducible assumption) | (with_reducible exact Blk.alloc_new _ _ _ (by first | rfl | (simp; done) | omega)) | (with_reducible refine Blk.drewN ?_ _) | (with_reducible refine Blk.drew ?_) | (with_reducible refine Blk.alloc_old ?_ _) | (with_reducible apply Blk.set_same) | (with_reducible refine Blk.set_other ?_ (by first | omega | (simp; done) | (simp; omega)) _) | (exact rfl)))) hb5 (by first | (simp; done) | omega | (simp; omega))
    have Q5 : Blk w5 (w.heap.size + 1 + 1) #[.int .u64 x, .int .u64 (hi (W)), .int .u64 (lo (W))] 46 := Blk.below (by (repeat' (first | (with_reducible assumption) | (with_reducible exact Blk.alloc_new _ _ _ (by first | rfl | (simp; done) | omega)) | (with_reducible refine Blk.drewN ?_ _) | (with_reducible refine Blk.drew ?_) | (with_reducible refine Blk.alloc_old ?_ _) | (with_reducible apply Blk.set_same) | (with_reducible refine Blk.set_other ?_ (by first | omega | (simp; done) | (simp; omega)) _) | (exact rfl)))) hb5 (by first | (simp; done) | omega | (simp; omega))
    have L5 : Blk w5 (w1.heap.size) #[.int .u64 X, .int .u64 (hi (Y)), .int .u64 (lo (Y)), .int .u64 M] 44 := Blk.below (by (repeat' (first | (with_reducible assumption) | (with_reducible exact Blk.alloc_new _ _ _ (by first | rfl | (simp; done) | omega)) | (with_reducible refine Blk.drewN ?_ _) | (with_reducible refine Blk.drew ?_) | (with_reducible refine Blk.alloc_old ?_ _) | (with_reducible apply Blk.set_same) | (with_reducible refine Blk.set_other ?_ (by first | omega | (simp; done) | (simp; omega)) _) | (exact rfl)))) hb5 (by first | (simp; done) | omega | (simp; omega))
    have g5 : Below w.heap.size w w5 := by refine Below.trans ?_ (hb5.mono ?_) <;> (repeat' (first | (with_reducible exact Below.refl _ _) | (with_reducible assumption) | (with_reducible refine below_drewN ?_ _) | (with_reducible refine Below.drew ?_) | (with_reducible refine Below.alloc ?_ ?_ _) | (with_reducible refine Below.setCell ?_ ?_ _) | go_size))
    have hz5 := hb5.size
    (try simp at hz5)
    clear hb5
    replace cA := A5.cell
    replace fA := A5.frozen
    replace zA := A5.size
    replace cB := B5.cell
    replace fB := B5.frozen
    replace zB := B5.size
    replace cQ := Q5.cell
    replace fQ := Q5.frozen
    replace zQ := Q5.size
    replace cL := L5.cell
    replace fL := L5.frozen
    replace zL := L5.size
    go_wp2_with fail
    refine wp_forget (fun v => Below w.heap.size w v ∧ Blk v (w.heap.size) #[.int .u64 Xa, .int .u64 (hi (Ya)), .int .u64 (lo (Ya)), .int .u64 Ma] 44 ∧ Blk v (w.heap.size + 1) #[.int .u64 Xb, .int .u64 (hi (Yb)), .int .u64 (lo (Yb)), .int .u64 Ma] 44 ∧ Blk v (w.heap.size + 1 + 1) #[.int .u64 x, .int .u64 (hi (W)), .int .u64 (lo (W))] 46 ∧ Blk v (w1.heap.size) #[.int .u64 X, .int .u64 (hi (Y)), .int .u64 (lo (Y)), .int .u64 M] 44) ⟨by (repeat' (first | (with_reducible exact Below.refl _ _) | (with_reducible assumption) | (with_reducible refine below_drewN ?_ _) | (with_reducible refine Below.drew ?_) | (with_reducible refine Below.alloc ?_ ?_ _) | (with_reducible refine Below.setCell ?_ ?_ _) | go_size)), by (repeat' (first | (with_reducible assumption) | (with_reducible exact Blk.alloc_new _ _ _ (by first | rfl | (simp; done) | omega)) | (with_reducible refine Blk.drewN ?_ _) | (with_reducible refine Blk.drew ?_) | (with_reducible refine Blk.alloc_old ?_ _) | (with_reducible apply Blk.set_same) | (with_reducible refine Blk.set_other ?_ (by first | omega | (simp; done) | (simp; omega)) _) | (exact rfl))), by (repeat' (first | (with_reducible assumption) | (with_reducible exact Blk.alloc_new _ _ _ (by first | rfl | (simp; done) | omega)) | (with_reducible refine Blk.drewN ?_ _) | (with_reducible refine Blk.drew ?_) | (with_reducible refine Blk.alloc_old ?_ _) | (with_reducible apply Blk.set_same) | (with_reducible refine Blk.set_other ?_ (by first | omega | (simp; done) | (simp; omega)) _) | (exact rfl))), by (repeat' (first | (with_reducible assumption) | (with_reducible exact Blk.alloc_new _ _ _ (by first | rfl | (simp; done) | omega)) | (with_reducible refine Blk.drewN ?_ _) | (with_reducible refine Blk.drew ?_) | (with_reducible refine Blk.alloc_old ?_ _) | (with_reducible apply Blk.set_same) | (with_reducible refine Blk.set_other ?_ (by first | omega | (simp; done) | (simp; omega)) _) | (exact rfl))), by (repeat' (first | (with_reducible assumption) | (with_reducible exact Blk.alloc_new _ _ _ (by first | rfl | (simp; done) | omega)) | (with_reducible refine Blk.drewN ?_ _) | (with_reducible refine Blk.drew ?_) | (with_reducible refine Blk.alloc_old ?_ _) | (with_reducible apply Blk.set_same) | (with_reducible refine Blk.set_other ?_ (by first | omega | (simp; done) | (simp; omega)) _) | (exact rfl)))⟩ ?_
    rintro v6 ⟨gv6, Av6, Bv6, Qv6, Lv6⟩
    have qA6 := blk_calm Av6
    have qB6 := blk_calm Bv6
    have qQ6 := blk_calm Qv6
    have qL6 := blk_calm Lv6
    refine wp_region_quiet_below (by kernel_rfl) (by kernel_rfl) ?_
    repeat (go_big_quiet_step ((first
        | (go_at_call 29; (with_reducible exact Calls.regrown_of (lreach X Y M W t _ hX hY hM hW Hht.out)))
        | (go_at_call 29; (with_reducible exact Calls.regrown_of (lreach Xa Ya Ma W ta _ hXa hYa hMa hW Hhta.out)))
        | (go_at_call 29; (with_reducible exact Calls.regrown_of (lreach Xb Yb Ma W tb _ hXb hYb hMa hW Hhtb.out)))
        | (go_at_call 33; (with_reducible exact Calls.regrown_of (ten_true _))))))
    refine wpQuiet_nil ?_
    intro _ hw'
    obtain ⟨pq, hw''⟩ := hw'
    subst hw''
    have hb6 := below_regrown v6 pq.d pq.os
    generalize Sort.grow (redrawn v6 pq.d) pq.os = w6 at *
    have A6 : Blk w6 (w.heap.size) #[.int .u64 Xa, .int .u64 (hi (Ya)), .int .u64 (lo (Ya)), .int .u64 Ma] 44 := Blk.below Av6 hb6 Av6.size
    have B6 : Blk w6 (w.heap.size + 1) #[.int .u64 Xb, .int .u64 (hi (Yb)), .int .u64 (lo (Yb)), .int .u64 Ma] 44 := Blk.below Bv6 hb6 Bv6.size
    have Q6 : Blk w6 (w.heap.size + 1 + 1) #[.int .u64 x, .int .u64 (hi (W)), .int .u64 (lo (W))] 46 := Blk.below Qv6 hb6 Qv6.size
    have L6 : Blk w6 (w1.heap.size) #[.int .u64 X, .int .u64 (hi (Y)), .int .u64 (lo (Y)), .int .u64 M] 44 := Blk.below Lv6 hb6 Lv6.size
    have g6 : Below w.heap.size w w6 := gv6.trans (hb6.mono gv6.size)
    have hz6 : w.heap.size ≤ w6.heap.size := g6.size
    clear hb6 gv6 Av6 qA6 Bv6 qB6 Qv6 qQ6 Lv6 qL6
    replace cA := A6.cell
    replace fA := A6.frozen
    replace zA := A6.size
    replace cB := B6.cell
    replace fB := B6.frozen
    replace zB := B6.size
    replace cQ := Q6.cell
    replace fQ := Q6.frozen
    replace zQ := Q6.size
    replace cL := L6.cell
    replace fL := L6.frozen
    replace zL := L6.size
    go_wp2
    go_ret
    exact ⟨rfl, by (repeat' (first | (with_reducible exact Below.refl _ _) | (with_reducible assumption) | (with_reducible refine below_drewN ?_ _) | (with_reducible refine Below.drew ?_) | (with_reducible refine Below.alloc ?_ ?_ _) | (with_reducible refine Below.setCell ?_ ?_ _) | go_size))⟩
theorem cmp_ngt {a b : Int} (h : a ≤ b) : decide (0 < cmp a b) = false := by unfold cmp; (repeat' split) <;> simp <;> omega
theorem cmp_gtz {a b : Int} (h : ¬ a ≤ b) : decide (cmp a b ≤ 0) = false := by unfold cmp; (repeat' split) <;> simp <;> omega
theorem LineLower_walk (Xa : Int) (hXa : 0 ≤ Xa ∧ Xa ≤ 18446744073709551615) (a1 : Int) (h1 : 0 ≤ a1 ∧ a1 ≤ 18446744073709551615) (a2 : Int) (h2 : 0 ≤ a2 ∧ a2 ≤ 18446744073709551615) (Ma : Int) (hMa : 0 ≤ Ma ∧ Ma ≤ 18446744073709551615)
    (Xb : Int) (hXb : 0 ≤ Xb ∧ Xb ≤ 18446744073709551615) (b1 : Int) (k1 : 0 ≤ b1 ∧ b1 ≤ 18446744073709551615) (b2 : Int) (k2 : 0 ≤ b2 ∧ b2 ≤ 18446744073709551615) (Mb : Int) (hMb : 0 ≤ Mb ∧ Mb ≤ 18446744073709551615)
    (x : Int) (hx : 0 ≤ x ∧ x ≤ 18446744073709551615) (c1 : Int) (l1 : 0 ≤ c1 ∧ c1 ≤ 18446744073709551615) (c2 : Int) (l2 : 0 ≤ c2 ∧ c2 ≤ 18446744073709551615) (w : World) :
    Calls Try.prog 8 #[.agg #[.int .u64 Xa, .int .u64 a1, .int .u64 a2, .int .u64 Ma], .agg #[.int .u64 Xb, .int .u64 b1, .int .u64 b2, .int .u64 Mb], .agg #[.int .u64 x, .int .u64 c1, .int .u64 c2]] w fun e w' => e = .returned (.bool true) ∧ Below w.heap.size w w' := by
  obtain ⟨Ya, hYa, rfl, rfl⟩ := wv_of h1 h2
  obtain ⟨Yb, hYb, rfl, rfl⟩ := wv_of k1 k2
  obtain ⟨W, hW, rfl, rfl⟩ := wv_of l1 l2
  by_cases e1 : 68719476736 ≤ hi Ya
  · exact LL_far0 Xa Ya Ma Xb Yb Mb x W w (decide_eq_true e1)
  by_cases e2 : 68719476736 ≤ hi Yb
  · exact LL_far1 Xa Ya Ma Xb Yb Mb x W w (decide_eq_false e1) (decide_eq_true e2)
  by_cases e3 : 68719476736 ≤ hi W
  · exact LL_far2 Xa Ya Ma Xb Yb Mb x W w (decide_eq_false e1) (decide_eq_false e2) (decide_eq_true e3)
  by_cases e4 : 68719476736 ≤ Ma
  · exact LL_far3 Xa Ya Ma Xb Yb Mb x W w (decide_eq_false e1) (decide_eq_false e2) (decide_eq_false e3) (decide_eq_true e4)
  have sa : LSmall Ya Ma := lsmall_of hYa (by omega) (by omega)
  have sb : LSmall Yb Ma := lsmall_of hYb (by omega) (by omega)
  have f1 := decide_eq_false e1; have f2 := decide_eq_false e2; have f3 := decide_eq_false e3; have f4 := decide_eq_false e4
  have ha := lower_at (x := max x (max Xa Xb)) sa sb hXa.1 hXb.1 (by omega) (by omega) (by omega)
  have hz := Eq.refl (max x (max Xa Xb))
  rcases hl : lowB Xa Ya Ma Xb Yb Ma with _ | _
  · have hle := ha.2 hl
    have hna : decide (Xa = Xa ∧ Ya = Ya ∧ Ma = Ma) = !false := by simp
    by_cases g3 : W ≤ Ya
    · exact LL_af Xa Ya Ma Xb Yb Mb x W Xa Ya Ma _ _ _ _ _ _ _ 0 0 0 0 w f1 f2 f3 f4 hXa hYa hMa hXb hYb hx hW hYa hXa hMa (.inr ⟨hl, rfl, rfl, rfl⟩) hna (fun h => by cases h) hz rfl rfl rfl (la_in hYa) (la_in hYa) (la_in hYb) rfl rfl (cmp_ngt (Int.le_refl _)) (cmp_ngt hle) rfl (cmp_le g3)
    by_cases g4 : W ≤ Yb
    · exact LL_bf Xa Ya Ma Xb Yb Mb x W Xa Ya Ma _ _ _ _ _ _ _ _ 0 0 0 w f1 f2 f3 f4 hXa hYa hMa hXb hYb hx hW hYa hXa hMa (.inr ⟨hl, rfl, rfl, rfl⟩) hna (fun h => by cases h) hz rfl rfl rfl (la_in hYa) (la_in hYa) (la_in hYb) rfl rfl (cmp_ngt (Int.le_refl _)) (cmp_ngt hle) rfl (cmp_gtz g3) rfl (cmp_le g4)
    have hr := (lower_reach sa sb hXa hXb (show Ya < W by omega) (show Yb < W by omega)).2 hl
    exact LL_cf Xa Ya Ma Xb Yb Mb x W Xa Ya Ma _ _ _ _ _ _ _ _ _ _ _ w f1 f2 f3 f4 hXa hYa hMa hXb hYb hx hW hYa hXa hMa (.inr ⟨hl, rfl, rfl, rfl⟩) hna (fun h => by cases h) hz rfl rfl rfl (la_in hYa) (la_in hYa) (la_in hYb) rfl rfl (cmp_ngt (Int.le_refl _)) (cmp_ngt hle) rfl (cmp_gtz g3) rfl (cmp_gtz g4) rfl rfl rfl (decide_eq_false (by omega)) (by simp)
  · have hle := ha.1 hl
    have hna : decide (Xb = Xa ∧ Yb = Ya ∧ Ma = Ma) = !true := by
      rw [Bool.not_true, decide_eq_false_iff_not]
      rintro ⟨rfl, rfl, _⟩
      unfold lowB at hl; have := of_decide_eq_true hl; omega
    have hnb : true = true → decide (Xb = Xb ∧ Yb = Yb ∧ Ma = Ma) = true := fun _ => by simp
    by_cases g3 : W ≤ Ya
    · exact LL_at Xa Ya Ma Xb Yb Mb x W Xb Yb Ma _ _ _ _ _ _ _ 0 0 0 0 w f1 f2 f3 f4 hXa hYa hMa hXb hYb hx hW hYb hXb hMa (.inl ⟨hl, rfl, rfl, rfl⟩) hna hnb hz rfl rfl rfl (la_in hYb) (la_in hYa) (la_in hYb) rfl rfl (cmp_ngt hle) (cmp_ngt (Int.le_refl _)) rfl (cmp_le g3)
    by_cases g4 : W ≤ Yb
    · exact LL_bt Xa Ya Ma Xb Yb Mb x W Xb Yb Ma _ _ _ _ _ _ _ _ 0 0 0 w f1 f2 f3 f4 hXa hYa hMa hXb hYb hx hW hYb hXb hMa (.inl ⟨hl, rfl, rfl, rfl⟩) hna hnb hz rfl rfl rfl (la_in hYb) (la_in hYa) (la_in hYb) rfl rfl (cmp_ngt hle) (cmp_ngt (Int.le_refl _)) rfl (cmp_gtz g3) rfl (cmp_le g4)
    have hr := (lower_reach sa sb hXa hXb (show Ya < W by omega) (show Yb < W by omega)).1 hl
    by_cases g5 : lr Xa Ya Ma W < lr Xb Yb Ma W
    · exact LL_dt Xa Ya Ma Xb Yb Mb x W Xb Yb Ma _ _ _ _ _ _ _ _ _ _ _ w f1 f2 f3 f4 hXa hYa hMa hXb hYb hx hW hYb hXb hMa (.inl ⟨hl, rfl, rfl, rfl⟩) hna hnb hz rfl rfl rfl (la_in hYb) (la_in hYa) (la_in hYb) rfl rfl (cmp_ngt hle) (cmp_ngt (Int.le_refl _)) rfl (cmp_gtz g3) rfl (cmp_gtz g4) rfl rfl rfl (decide_eq_true g5) (by simp)
    · exact LL_ct Xa Ya Ma Xb Yb Mb x W Xb Yb Ma _ _ _ _ _ _ _ _ _ _ _ w f1 f2 f3 f4 hXa hYa hMa hXb hYb hx hW hYb hXb hMa (.inl ⟨hl, rfl, rfl, rfl⟩) hna hnb hz rfl rfl rfl (la_in hYb) (la_in hYa) (la_in hYb) rfl rfl (cmp_ngt hle) (cmp_ngt (Int.le_refl _)) rfl (cmp_gtz g3) rfl (cmp_gtz g4) rfl rfl rfl (decide_eq_false g5) (by simp; omega)
namespace lineLowerDone
theorem own : ownKnob Try.prog.godebug = none := by kernel_rfl
theorem laidOut : laidOutB Try.prog = true := by kernel_rfl
set_option maxRecDepth 100000 in
theorem lifted (os : Os) (started : os.Started) (H : Type) (enc : TypeId × Value → H) :
    ReturnsInHanded {} Try.checked os 8 .any (Rows.lineLowerSpec.pre6 enc Try.prog Try.f8 Rows.lineLowerRow.domain false) (Rows.lineLowerSpec.post enc Try.prog Try.f8 false true false false) := by
  refine returnsInHanded_of_change (C := Try.checked) own started (by kernel_rfl) Try.func8
    (ChangeSpec.witness6 (enc := enc) (C := Try.checked) false ⟨#[], #[.agg #[.int .u64 0, .int .u64 0, .int .u64 0, .int .u64 0], .agg #[.int .u64 0, .int .u64 0, .int .u64 0, .int .u64 0], .agg #[.int .u64 0, .int .u64 0, .int .u64 0]], []⟩ 8 (by kernel_rfl) (by kernel_rfl) (by kernel_rfl) (by kernel_rfl)) ?_
  intro W base args ds gs before hval0 hW hcnd _
  have hval : ∀ (j : Nat) t v, Try.f8.params[j]? = some t → args[j]? = some v → Value.okWide Try.prog W .any base t v := hval0
  have hW' := hW
  obtain ⟨p, q, hA0, hV, rfl, hfz, hnd⟩ := hW
  have hA : DataW.TrodAll enc Try.prog W 0 (fun _ => true) true Try.f8.params.toList args.toList ds p := hA0
  rw [Try.params8] at hA hval
  obtain ⟨v0, vs0, d0, ds0, p0, q0, hargs, rfl, rfl, h0, r0⟩ := trodAll_cons hA
  obtain ⟨v1, vs1, d1, ds1, p1, q1, rfl, rfl, rfl, h1, r1⟩ := trodAll_cons r0
  obtain ⟨v2, vs2, d2, ds2, p2, q2, rfl, rfl, rfl, h2, r2⟩ := trodAll_cons r1
  obtain ⟨rfl, rfl, rfl⟩ := trodAll_nil r2
  obtain rfl : args = #[v0, v1, v2] := by cases args; simp_all
  obtain ⟨rfl, rfl⟩ := trodVars_none hV
  have k0 := h0
  have lt0 : ∀ x ∈ p0, x.block < W.heap.size := by obtain ⟨m, hm⟩ := k0; exact DataW.trod_lt m _ _ _ hm
  obtain ⟨a0_0, a0_1, a0_2, a0_3, rfl, b0_0, b0_1, b0_2, b0_3⟩ := open_line (hval 0 44 v0 rfl rfl) h0
  have k1 := h1
  have lt1 : ∀ x ∈ p1, x.block < W.heap.size := by obtain ⟨m, hm⟩ := k1; exact DataW.trod_lt m _ _ _ hm
  obtain ⟨a1_0, a1_1, a1_2, a1_3, rfl, b1_0, b1_1, b1_2, b1_3⟩ := open_line (hval 1 44 v1 rfl rfl) h1
  have k2 := h2
  have lt2 : ∀ x ∈ p2, x.block < W.heap.size := by obtain ⟨m, hm⟩ := k2; exact DataW.trod_lt m _ _ _ hm
  obtain ⟨a2_0, a2_1, a2_2, rfl, b2_0, b2_1, b2_2⟩ := open_asked5 (hval 2 46 v2 rfl rfl) h2
  clear hA0 hval0
  refine (LineLower_walk a0_0 b0_0 a0_1 b0_1 a0_2 b0_2 a0_3 b0_3 a1_0 b1_0 a1_1 b1_1 a1_2 b1_2 a1_3 b1_3 a2_0 b2_0 a2_1 b2_1 a2_2 b2_2 W).mono fun e W' ⟨he, bel⟩ => ?_
  subst he
  exact ⟨_, rfl, _, _, _, [], _, [], hW', trodAll_mk1 (shut_bool Try.underlying4 _), (trodAll_cons_mk (Below.trod laidOut (by kernel_rfl) (of_decide_eq_true (by kernel_rfl)) k0 bel lt0) (trodAll_cons_mk (Below.trod laidOut (by kernel_rfl) (of_decide_eq_true (by kernel_rfl)) k1 bel lt1) (trodAll_cons_mk (Below.trod laidOut (by kernel_rfl) (of_decide_eq_true (by kernel_rfl)) k2 bel lt2) trodAll_mk0))), rfl, bel.frame _, fun h => by cases h⟩
theorem over : Rows.lineLowerRow.holds Try.pinned (OpenSpec.ofChange Rows.lineLowerSpec) :=
  OpenClaim.holds_of_wide 8 Try.f8 rfl rfl rfl rfl rfl rfl rfl ⟨rfl, rfl, rfl, rfl, rfl⟩ rfl rfl rfl rfl rfl (by kernel_rfl) Try.func8 (by kernel_rfl)
    (of_decide_eq_true (by kernel_rfl)) (by unfold Func.isWrapper; first | (rw [if_pos (by decide +kernel)]; kernel_rfl) | (rw [if_neg (by decide +kernel)]; exact ⟨rfl, rfl⟩))
    (fun os started H enc _ => lifted os started H enc)
end lineLowerDone
theorem LineLower_holds : Rows.LineLowerSaid := lineLowerDone.over

end Go.Proofs.Ytiaciibnakiikaa
