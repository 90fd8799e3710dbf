/-
  The walks of curve.behind, of curve.Ticks above the knee, and of the closed example 'three'. Conditions: fields in range.
-/
import Derived.Test.YtiaciibnakiikaaCurveA
import Derived.Test.YtiaciibnakiikaaCurveB
namespace Go.Proofs.Ytiaciibnakiikaa
open Go.RowKit
set_option linter.unusedVariables false
theorem behind_ok (s m v : Int) (w : World) (hs : In128 s) (hm : 0 ≤ m ∧ m ≤ 18446744073709551615) (h : CeR s m v 0) (hv : v < 9223372036854775808) (hv0 : 0 ≤ v) :
    Calls Try.prog 57 #[wv s, .int .u64 m] w fun e w' => e = .returned (.int .u64 v) ∧ Below w.heap.size w w' := by
  have H := hide h; clear h
  go_enter Try.func57, Try.ntmps57
  go_wp2_with fail
  refine (ceil_c s m v 0 _ hs hm H.out).mono ?_
  rintro e w1 ⟨rfl, hb1⟩
  have g1 : Below w.heap.size w w1 := by refine Below.trans ?_ (hb1.mono ?_) <;> (repeat' (first | (with_reducible exact Below.refl _ _) | (with_reducible assumption) | (with_reducible refine below_drewN ?_ _) | (with_reducible refine Below.drew ?_) | (with_reducible refine Below.alloc ?_ ?_ _) | (with_reducible refine Below.setCell ?_ ?_ _) | go_size))
  have hz1 := hb1.size
  (try simp at hz1)
  clear hb1
  go_wp2
  go_ret
  exact ⟨rfl, by (repeat' (first | (with_reducible exact Below.refl _ _) | (with_reducible assumption) | (with_reducible refine below_drewN ?_ _) | (with_reducible refine Below.drew ?_) | (with_reducible refine Below.alloc ?_ ?_ _) | (with_reducible refine Below.setCell ?_ ?_ _) | go_size))⟩
theorem wSubD (a b c : Int) (w : World) (ha : In128 a) (hb : In128 b) (hc : a - b = c) (hcc : In128 c) :
    Calls Try.prog 45 #[wv a, wv b] w fun e w' => e = .returned (.tuple #[wv c, .bool false]) ∧ Below w.heap.size w w' := by
  have := wSub a b w ha hb
  rw [hc, m128_of hcc, decide_eq_false (by unfold In128 at hcc; omega)] at this; exact this
theorem ticks_321 (w : World) :
    Calls Try.prog 43 #[.agg #[.int .u64 3, .int .u64 2, .int .u64 1], wv 7] w fun e w' => e = .returned (.int .u64 3) ∧ Below w.heap.size w w' := by
  have k3 := hide (show CeR 1 1 1 0 from .inr (.inr ⟨by omega, by decide +kernel, by decide +kernel, rfl⟩))
  have e1 : (hi 7 == 0) = true := by decide +kernel
  have e2 : (lo 7 == 0) = false := by decide +kernel
  go_enter Try.func43, Try.ntmps43
  go_wp2_with fail
  refine (service_lo 3 2 1 2 6 0 6 _ (by omega) (by omega) (by omega) (by omega) (by decide +kernel) (by omega) (by omega) (by omega) (by omega) (by unfold In128; omega)).mono ?_
  rintro e w1 ⟨rfl, hb1⟩
  have C1 : Blk w1 (w.heap.size) #[.int .u64 3, .int .u64 2, .int .u64 1] 61 := Blk.below (by (repeat' (first | (with_reducible assumption) | (with_reducible exact Blk.alloc_new _ _ _ (by first | rfl | (simp; done) | omega)) | (with_reducible refine Blk.drewN ?_ _) | (with_reducible refine Blk.drew ?_) | (with_reducible refine Blk.alloc_old ?_ _) | (with_reducible apply Blk.set_same) | (with_reducible refine Blk.set_other ?_ (by first | omega | (simp; done) | (simp; omega)) _) | (exact rfl)))) hb1 (by first | (simp; done) | omega | (simp; omega))
  have W1 : Blk w1 (w.heap.size + 1) #[.int .u64 (hi (7)), .int .u64 (lo (7))] 38 := Blk.below (by (repeat' (first | (with_reducible assumption) | (with_reducible exact Blk.alloc_new _ _ _ (by first | rfl | (simp; done) | omega)) | (with_reducible refine Blk.drewN ?_ _) | (with_reducible refine Blk.drew ?_) | (with_reducible refine Blk.alloc_old ?_ _) | (with_reducible apply Blk.set_same) | (with_reducible refine Blk.set_other ?_ (by first | omega | (simp; done) | (simp; omega)) _) | (exact rfl)))) hb1 (by first | (simp; done) | omega | (simp; omega))
  have g1 : Below w.heap.size w w1 := by refine Below.trans ?_ (hb1.mono ?_) <;> (repeat' (first | (with_reducible exact Below.refl _ _) | (with_reducible assumption) | (with_reducible refine below_drewN ?_ _) | (with_reducible refine Below.drew ?_) | (with_reducible refine Below.alloc ?_ ?_ _) | (with_reducible refine Below.setCell ?_ ?_ _) | go_size))
  have hz1 := hb1.size
  (try simp at hz1)
  clear hb1
  replace cC := C1.cell
  replace fC := C1.frozen
  replace zC := C1.size
  replace cW := W1.cell
  replace fW := W1.frozen
  replace zW := W1.size
  go_wp2_with fail
  refine (wcmpC 7 6 1 _ (by unfold In128; omega) (by unfold In128; omega) (by decide +kernel)).mono ?_
  rintro e w2 ⟨rfl, hb2⟩
  have C2 : Blk w2 (w.heap.size) #[.int .u64 3, .int .u64 2, .int .u64 1] 61 := Blk.below (by (repeat' (first | (with_reducible assumption) | (with_reducible exact Blk.alloc_new _ _ _ (by first | rfl | (simp; done) | omega)) | (with_reducible refine Blk.drewN ?_ _) | (with_reducible refine Blk.drew ?_) | (with_reducible refine Blk.alloc_old ?_ _) | (with_reducible apply Blk.set_same) | (with_reducible refine Blk.set_other ?_ (by first | omega | (simp; done) | (simp; omega)) _) | (exact rfl)))) hb2 (by first | (simp; done) | omega | (simp; omega))
  have W2 : Blk w2 (w.heap.size + 1) #[.int .u64 (hi (7)), .int .u64 (lo (7))] 38 := Blk.below (by (repeat' (first | (with_reducible assumption) | (with_reducible exact Blk.alloc_new _ _ _ (by first | rfl | (simp; done) | omega)) | (with_reducible refine Blk.drewN ?_ _) | (with_reducible refine Blk.drew ?_) | (with_reducible refine Blk.alloc_old ?_ _) | (with_reducible apply Blk.set_same) | (with_reducible refine Blk.set_other ?_ (by first | omega | (simp; done) | (simp; omega)) _) | (exact rfl)))) hb2 (by first | (simp; done) | omega | (simp; omega))
  have K2 : Blk w2 (w1.heap.size) #[.int .u64 (hi (6)), .int .u64 (lo (6))] 38 := Blk.below (by (repeat' (first | (with_reducible assumption) | (with_reducible exact Blk.alloc_new _ _ _ (by first | rfl | (simp; done) | omega)) | (with_reducible refine Blk.drewN ?_ _) | (with_reducible refine Blk.drew ?_) | (with_reducible refine Blk.alloc_old ?_ _) | (with_reducible apply Blk.set_same) | (with_reducible refine Blk.set_other ?_ (by first | omega | (simp; done) | (simp; omega)) _) | (exact rfl)))) hb2 (by first | (simp; done) | omega | (simp; omega))
  have g2 : Below w.heap.size w w2 := by refine Below.trans ?_ (hb2.mono ?_) <;> (repeat' (first | (with_reducible exact Below.refl _ _) | (with_reducible assumption) | (with_reducible refine below_drewN ?_ _) | (with_reducible refine Below.drew ?_) | (with_reducible refine Below.alloc ?_ ?_ _) | (with_reducible refine Below.setCell ?_ ?_ _) | go_size))
  have hz2 := hb2.size
  (try simp at hz2)
  clear hb2
  replace cC := C2.cell
  replace fC := C2.frozen
  replace zC := C2.size
  replace cW := W2.cell
  replace fW := W2.frozen
  replace zW := W2.size
  replace cK := K2.cell
  replace fK := K2.frozen
  replace zK := K2.size
  go_wp2_with fail
  refine (crightC 3 2 1 _ (by omega) true (by decide +kernel)).mono ?_
  rintro e w3 ⟨rfl, hb3⟩
  have C3 : Blk w3 (w.heap.size) #[.int .u64 3, .int .u64 2, .int .u64 1] 61 := Blk.below (by (repeat' (first | (with_reducible assumption) | (with_reducible exact Blk.alloc_new _ _ _ (by first | rfl | (simp; done) | omega)) | (with_reducible refine Blk.drewN ?_ _) | (with_reducible refine Blk.drew ?_) | (with_reducible refine Blk.alloc_old ?_ _) | (with_reducible apply Blk.set_same) | (with_reducible refine Blk.set_other ?_ (by first | omega | (simp; done) | (simp; omega)) _) | (exact rfl)))) hb3 (by first | (simp; done) | omega | (simp; omega))
  have W3 : Blk w3 (w.heap.size + 1) #[.int .u64 (hi (7)), .int .u64 (lo (7))] 38 := Blk.below (by (repeat' (first | (with_reducible assumption) | (with_reducible exact Blk.alloc_new _ _ _ (by first | rfl | (simp; done) | omega)) | (with_reducible refine Blk.drewN ?_ _) | (with_reducible refine Blk.drew ?_) | (with_reducible refine Blk.alloc_old ?_ _) | (with_reducible apply Blk.set_same) | (with_reducible refine Blk.set_other ?_ (by first | omega | (simp; done) | (simp; omega)) _) | (exact rfl)))) hb3 (by first | (simp; done) | omega | (simp; omega))
  have K3 : Blk w3 (w1.heap.size) #[.int .u64 (hi (6)), .int .u64 (lo (6))] 38 := Blk.below (by (repeat' (first | (with_reducible assumption) | (with_reducible exact Blk.alloc_new _ _ _ (by first | rfl | (simp; done) | omega)) | (with_reducible refine Blk.drewN ?_ _) | (with_reducible refine Blk.drew ?_) | (with_reducible refine Blk.alloc_old ?_ _) | (with_reducible apply Blk.set_same) | (with_reducible refine Blk.set_other ?_ (by first | omega | (simp; done) | (simp; omega)) _) | (exact rfl)))) hb3 (by first | (simp; done) | omega | (simp; omega))
  have g3 : Below w.heap.size w w3 := by refine Below.trans ?_ (hb3.mono ?_) <;> (repeat' (first | (with_reducible exact Below.refl _ _) | (with_reducible assumption) | (with_reducible refine below_drewN ?_ _) | (with_reducible refine Below.drew ?_) | (with_reducible refine Below.alloc ?_ ?_ _) | (with_reducible refine Below.setCell ?_ ?_ _) | go_size))
  have hz3 := hb3.size
  (try simp at hz3)
  clear hb3
  replace cC := C3.cell
  replace fC := C3.frozen
  replace zC := C3.size
  replace cW := W3.cell
  replace fW := W3.frozen
  replace zW := W3.size
  replace cK := K3.cell
  replace fK := K3.frozen
  replace zK := K3.size
  go_wp2_with fail
  refine (wSubD 7 6 1 _ (by unfold In128; omega) (by unfold In128; omega) (by omega) (by unfold In128; omega)).mono ?_
  rintro e w4 ⟨rfl, hb4⟩
  have C4 : Blk w4 (w.heap.size) #[.int .u64 3, .int .u64 2, .int .u64 1] 61 := Blk.below (by (repeat' (first | (with_reducible assumption) | (with_reducible exact Blk.alloc_new _ _ _ (by first | rfl | (simp; done) | omega)) | (with_reducible refine Blk.drewN ?_ _) | (with_reducible refine Blk.drew ?_) | (with_reducible refine Blk.alloc_old ?_ _) | (with_reducible apply Blk.set_same) | (with_reducible refine Blk.set_other ?_ (by first | omega | (simp; done) | (simp; omega)) _) | (exact rfl)))) hb4 (by first | (simp; done) | omega | (simp; omega))
  have W4 : Blk w4 (w.heap.size + 1) #[.int .u64 (hi (7)), .int .u64 (lo (7))] 38 := Blk.below (by (repeat' (first | (with_reducible assumption) | (with_reducible exact Blk.alloc_new _ _ _ (by first | rfl | (simp; done) | omega)) | (with_reducible refine Blk.drewN ?_ _) | (with_reducible refine Blk.drew ?_) | (with_reducible refine Blk.alloc_old ?_ _) | (with_reducible apply Blk.set_same) | (with_reducible refine Blk.set_other ?_ (by first | omega | (simp; done) | (simp; omega)) _) | (exact rfl)))) hb4 (by first | (simp; done) | omega | (simp; omega))
  have K4 : Blk w4 (w1.heap.size) #[.int .u64 (hi (6)), .int .u64 (lo (6))] 38 := Blk.below (by (repeat' (first | (with_reducible assumption) | (with_reducible exact Blk.alloc_new _ _ _ (by first | rfl | (simp; done) | omega)) | (with_reducible refine Blk.drewN ?_ _) | (with_reducible refine Blk.drew ?_) | (with_reducible refine Blk.alloc_old ?_ _) | (with_reducible apply Blk.set_same) | (with_reducible refine Blk.set_other ?_ (by first | omega | (simp; done) | (simp; omega)) _) | (exact rfl)))) hb4 (by first | (simp; done) | omega | (simp; omega))
  have g4 : Below w.heap.size w w4 := by refine Below.trans ?_ (hb4.mono ?_) <;> (repeat' (first | (with_reducible exact Below.refl _ _) | (with_reducible assumption) | (with_reducible refine below_drewN ?_ _) | (with_reducible refine Below.drew ?_) | (with_reducible refine Below.alloc ?_ ?_ _) | (with_reducible refine Below.setCell ?_ ?_ _) | go_size))
  have hz4 := hb4.size
  (try simp at hz4)
  clear hb4
  replace cC := C4.cell
  replace fC := C4.frozen
  replace zC := C4.size
  replace cW := W4.cell
  replace fW := W4.frozen
  replace zW := W4.size
  replace cK := K4.cell
  replace fK := K4.frozen
  replace zK := K4.size
  go_wp2_with fail
  go_region_held3 (fun v => (∀ i, v.cell? ⟨w.heap.size, i, none⟩ = #[.int .u64 3, .int .u64 2, .int .u64 1][i]?) ∧ w.heap.size < v.heap.size ∧ Blk v (w.heap.size) #[.int .u64 3, .int .u64 2, .int .u64 1] 61 ∧ (∀ i, v.cell? ⟨w.heap.size + 1, i, none⟩ = #[.int .u64 (hi (7)), .int .u64 (lo (7))][i]?) ∧ w.heap.size + 1 < v.heap.size ∧ Blk v (w.heap.size + 1) #[.int .u64 (hi (7)), .int .u64 (lo (7))] 38 ∧ (∀ i, v.cell? ⟨w4.heap.size, i, none⟩ = #[.int .u64 (hi (1)), .int .u64 (lo (1))][i]?) ∧ w4.heap.size < v.heap.size ∧ Blk v (w4.heap.size) #[.int .u64 (hi (1)), .int .u64 (lo (1))] 38 ∧ Below w.heap.size w v)
    (first
      | (refine ⟨?_, ?_, ?_, ?_, ?_, ?_, ?_, ?_, ?_, ?_⟩ <;> first | (with_reducible assumption) | ((repeat' (first | (with_reducible assumption) | (with_reducible exact Blk.alloc_new _ _ _ (by first | rfl | (simp; done) | omega)) | (with_reducible refine Blk.drewN ?_ _) | (with_reducible refine Blk.drew ?_) | (with_reducible refine Blk.alloc_old ?_ _) | (with_reducible apply Blk.set_same) | (with_reducible refine Blk.set_other ?_ (by first | omega | (simp; done) | (simp; omega)) _) | (exact rfl))); done) | ((repeat' (first | (with_reducible exact Below.refl _ _) | (with_reducible assumption) | (with_reducible refine below_drewN ?_ _) | (with_reducible refine Below.drew ?_) | (with_reducible refine Below.alloc ?_ ?_ _) | (with_reducible refine Below.setCell ?_ ?_ _) | go_size)); done) | omega | (go_simp; done) | (simp; done) | (exact Blk.cell (by (repeat' (first | (with_reducible assumption) | (with_reducible exact Blk.alloc_new _ _ _ (by first | rfl | (simp; done) | omega)) | (with_reducible refine Blk.drewN ?_ _) | (with_reducible refine Blk.drew ?_) | (with_reducible refine Blk.alloc_old ?_ _) | (with_reducible apply Blk.set_same) | (with_reducible refine Blk.set_other ?_ (by first | omega | (simp; done) | (simp; omega)) _) | (exact rfl)))))))
    (first
      | (go_at_call 57; (with_reducible refine (behind_ok 1 1 1 _ (by unfold In128; omega) (by omega) k3.out (by omega) (by omega)).mono ?_); rintro e w' ⟨rfl, hb'⟩; have hbx : Below w.heap.size w w' := (by refine Below.trans ?_ (Below.mono hb' ?_) <;> (repeat' (first | (with_reducible exact Below.refl _ _) | (with_reducible assumption) | (with_reducible refine below_drewN ?_ _) | (with_reducible refine Below.drew ?_) | (with_reducible refine Below.alloc ?_ ?_ _) | (with_reducible refine Below.setCell ?_ ?_ _) | go_size))); have hbs := hb'.size; (try simp at hbs); have hkC : Blk w' (w.heap.size) #[.int .u64 3, .int .u64 2, .int .u64 1] 61 := Blk.below (by (repeat' (first | (with_reducible assumption) | (with_reducible exact Blk.alloc_new _ _ _ (by first | rfl | (simp; done) | omega)) | (with_reducible refine Blk.drewN ?_ _) | (with_reducible refine Blk.drew ?_) | (with_reducible refine Blk.alloc_old ?_ _) | (with_reducible apply Blk.set_same) | (with_reducible refine Blk.set_other ?_ (by first | omega | (simp; done) | (simp; omega)) _) | (exact rfl)))) hb' (by first | (simp; done) | omega | (simp; omega)); have hqC := hkC.cell; have hzC := hkC.size; have hkW : Blk w' (w.heap.size + 1) #[.int .u64 (hi (7)), .int .u64 (lo (7))] 38 := Blk.below (by (repeat' (first | (with_reducible assumption) | (with_reducible exact Blk.alloc_new _ _ _ (by first | rfl | (simp; done) | omega)) | (with_reducible refine Blk.drewN ?_ _) | (with_reducible refine Blk.drew ?_) | (with_reducible refine Blk.alloc_old ?_ _) | (with_reducible apply Blk.set_same) | (with_reducible refine Blk.set_other ?_ (by first | omega | (simp; done) | (simp; omega)) _) | (exact rfl)))) hb' (by first | (simp; done) | omega | (simp; omega)); have hqW := hkW.cell; have hzW := hkW.size; have hkZ : Blk w' (w4.heap.size) #[.int .u64 (hi (1)), .int .u64 (lo (1))] 38 := Blk.below (by (repeat' (first | (with_reducible assumption) | (with_reducible exact Blk.alloc_new _ _ _ (by first | rfl | (simp; done) | omega)) | (with_reducible refine Blk.drewN ?_ _) | (with_reducible refine Blk.drew ?_) | (with_reducible refine Blk.alloc_old ?_ _) | (with_reducible apply Blk.set_same) | (with_reducible refine Blk.set_other ?_ (by first | omega | (simp; done) | (simp; omega)) _) | (exact rfl)))) hb' (by first | (simp; done) | omega | (simp; omega)); have hqZ := hkZ.cell; have hzZ := hkZ.size; clear hb'))
  all_goals
    go_wp2
    go_ret
    exact ⟨rfl, by (repeat' (first | (with_reducible exact Below.refl _ _) | (with_reducible assumption) | (with_reducible refine below_drewN ?_ _) | (with_reducible refine Below.drew ?_) | (with_reducible refine Below.alloc ?_ ?_ _) | (with_reducible refine Below.setCell ?_ ?_ _) | go_size))⟩
theorem scale_b (w : World) :
    Calls Try.prog 36 #[.int .i64 3] w fun e w' => e = .returned (.int .u64 21845) ∧ Below w.heap.size w w' :=
  (scale_ge 3 w (by omega)).mono fun e w' ⟨h1, h2⟩ => ⟨h1, by rw [h2]; exact Below.refl _ _⟩
set_option maxHeartbeats 1000000 in
theorem three_true (w : World) :
    Calls Try.prog 39 #[] w fun e w' => e = .returned (.bool true) ∧ Below w.heap.size w w' := by
  go_enter Try.func39, Try.ntmps39
  go_wp2_with fail
  go_region_held3 (fun v => (∀ i, v.cell? ⟨w.heap.size, i, none⟩ = #[.int .u64 3, .int .u64 2, .int .u64 1][i]?) ∧ w.heap.size < v.heap.size ∧ Blk v (w.heap.size) #[.int .u64 3, .int .u64 2, .int .u64 1] 61 ∧ Below w.heap.size w v)
    (first
      | (refine ⟨?_, ?_, ?_, ?_⟩ <;> first | (with_reducible assumption) | ((repeat' (first | (with_reducible assumption) | (with_reducible exact Blk.alloc_new _ _ _ (by first | rfl | (simp; done) | omega)) | (with_reducible refine Blk.drewN ?_ _) | (with_reducible refine Blk.drew ?_) | (with_reducible refine Blk.alloc_old ?_ _) | (with_reducible apply Blk.set_same) | (with_reducible refine Blk.set_other ?_ (by first | omega | (simp; done) | (simp; omega)) _) | (exact rfl))); done) | ((repeat' (first | (with_reducible exact Below.refl _ _) | (with_reducible assumption) | (with_reducible refine below_drewN ?_ _) | (with_reducible refine Below.drew ?_) | (with_reducible refine Below.alloc ?_ ?_ _) | (with_reducible refine Below.setCell ?_ ?_ _) | go_size)); done) | omega | (go_simp; done) | (simp; done) | (exact Blk.cell (by (repeat' (first | (with_reducible assumption) | (with_reducible exact Blk.alloc_new _ _ _ (by first | rfl | (simp; done) | omega)) | (with_reducible refine Blk.drewN ?_ _) | (with_reducible refine Blk.drew ?_) | (with_reducible refine Blk.alloc_old ?_ _) | (with_reducible apply Blk.set_same) | (with_reducible refine Blk.set_other ?_ (by first | omega | (simp; done) | (simp; omega)) _) | (exact rfl)))))))
    (first
      | (go_at_call 37; (with_reducible refine (curveOf_any 3 2 1 3 _ (by omega) (by omega) (by omega) (by decide +kernel)).mono ?_); rintro e w' ⟨rfl, hb'⟩; have hbx : Below w.heap.size w w' := (by refine Below.trans ?_ (Below.mono hb' ?_) <;> (repeat' (first | (with_reducible exact Below.refl _ _) | (with_reducible assumption) | (with_reducible refine below_drewN ?_ _) | (with_reducible refine Below.drew ?_) | (with_reducible refine Below.alloc ?_ ?_ _) | (with_reducible refine Below.setCell ?_ ?_ _) | go_size))); have hbs := hb'.size; (try simp at hbs); have hkC : Blk w' (w.heap.size) #[.int .u64 3, .int .u64 2, .int .u64 1] 61 := Blk.below (by (repeat' (first | (with_reducible assumption) | (with_reducible exact Blk.alloc_new _ _ _ (by first | rfl | (simp; done) | omega)) | (with_reducible refine Blk.drewN ?_ _) | (with_reducible refine Blk.drew ?_) | (with_reducible refine Blk.alloc_old ?_ _) | (with_reducible apply Blk.set_same) | (with_reducible refine Blk.set_other ?_ (by first | omega | (simp; done) | (simp; omega)) _) | (exact rfl)))) hb' (by first | (simp; done) | omega | (simp; omega)); have hqC := hkC.cell; have hzC := hkC.size; clear hb')
      | (go_at_call 40; (with_reducible refine (service_lo 3 2 1 1 3 0 3 _ (by omega) (by omega) (by omega) (by omega) (by decide +kernel) (by omega) (by omega) (by omega) (by omega) (by unfold In128; omega)).mono ?_); rintro e w' ⟨rfl, hb'⟩; have hbx : Below w.heap.size w w' := (by refine Below.trans ?_ (Below.mono hb' ?_) <;> (repeat' (first | (with_reducible exact Below.refl _ _) | (with_reducible assumption) | (with_reducible refine below_drewN ?_ _) | (with_reducible refine Below.drew ?_) | (with_reducible refine Below.alloc ?_ ?_ _) | (with_reducible refine Below.setCell ?_ ?_ _) | go_size))); have hbs := hb'.size; (try simp at hbs); have hkC : Blk w' (w.heap.size) #[.int .u64 3, .int .u64 2, .int .u64 1] 61 := Blk.below (by (repeat' (first | (with_reducible assumption) | (with_reducible exact Blk.alloc_new _ _ _ (by first | rfl | (simp; done) | omega)) | (with_reducible refine Blk.drewN ?_ _) | (with_reducible refine Blk.drew ?_) | (with_reducible refine Blk.alloc_old ?_ _) | (with_reducible apply Blk.set_same) | (with_reducible refine Blk.set_other ?_ (by first | omega | (simp; done) | (simp; omega)) _) | (exact rfl)))) hb' (by first | (simp; done) | omega | (simp; omega)); have hqC := hkC.cell; have hzC := hkC.size; clear hb')
      | (go_at_call 40; (with_reducible refine (service_hi 3 2 1 3 6 1 7 _ (by omega) (by omega) (by omega) (by omega) (by decide +kernel) (by omega) (by omega) (by omega) (by omega) (by unfold In128; omega)).mono ?_); rintro e w' ⟨rfl, hb'⟩; have hbx : Below w.heap.size w w' := (by refine Below.trans ?_ (Below.mono hb' ?_) <;> (repeat' (first | (with_reducible exact Below.refl _ _) | (with_reducible assumption) | (with_reducible refine below_drewN ?_ _) | (with_reducible refine Below.drew ?_) | (with_reducible refine Below.alloc ?_ ?_ _) | (with_reducible refine Below.setCell ?_ ?_ _) | go_size))); have hbs := hb'.size; (try simp at hbs); have hkC : Blk w' (w.heap.size) #[.int .u64 3, .int .u64 2, .int .u64 1] 61 := Blk.below (by (repeat' (first | (with_reducible assumption) | (with_reducible exact Blk.alloc_new _ _ _ (by first | rfl | (simp; done) | omega)) | (with_reducible refine Blk.drewN ?_ _) | (with_reducible refine Blk.drew ?_) | (with_reducible refine Blk.alloc_old ?_ _) | (with_reducible apply Blk.set_same) | (with_reducible refine Blk.set_other ?_ (by first | omega | (simp; done) | (simp; omega)) _) | (exact rfl)))) hb' (by first | (simp; done) | omega | (simp; omega)); have hqC := hkC.cell; have hzC := hkC.size; clear hb')
      | (go_at_call 54; (with_reducible refine (wOf 3 _ (by omega) (by omega)).mono ?_); rintro e w' ⟨rfl, hb'⟩; have hbx : Below w.heap.size w w' := (by refine Below.trans ?_ (Below.mono hb' ?_) <;> (repeat' (first | (with_reducible exact Below.refl _ _) | (with_reducible assumption) | (with_reducible refine below_drewN ?_ _) | (with_reducible refine Below.drew ?_) | (with_reducible refine Below.alloc ?_ ?_ _) | (with_reducible refine Below.setCell ?_ ?_ _) | go_size))); have hbs := hb'.size; (try simp at hbs); have hkC : Blk w' (w.heap.size) #[.int .u64 3, .int .u64 2, .int .u64 1] 61 := Blk.below (by (repeat' (first | (with_reducible assumption) | (with_reducible exact Blk.alloc_new _ _ _ (by first | rfl | (simp; done) | omega)) | (with_reducible refine Blk.drewN ?_ _) | (with_reducible refine Blk.drew ?_) | (with_reducible refine Blk.alloc_old ?_ _) | (with_reducible apply Blk.set_same) | (with_reducible refine Blk.set_other ?_ (by first | omega | (simp; done) | (simp; omega)) _) | (exact rfl)))) hb' (by first | (simp; done) | omega | (simp; omega)); have hqC := hkC.cell; have hzC := hkC.size; clear hb')
      | (go_at_call 54; (with_reducible refine (wOf 7 _ (by omega) (by omega)).mono ?_); rintro e w' ⟨rfl, hb'⟩; have hbx : Below w.heap.size w w' := (by refine Below.trans ?_ (Below.mono hb' ?_) <;> (repeat' (first | (with_reducible exact Below.refl _ _) | (with_reducible assumption) | (with_reducible refine below_drewN ?_ _) | (with_reducible refine Below.drew ?_) | (with_reducible refine Below.alloc ?_ ?_ _) | (with_reducible refine Below.setCell ?_ ?_ _) | go_size))); have hbs := hb'.size; (try simp at hbs); have hkC : Blk w' (w.heap.size) #[.int .u64 3, .int .u64 2, .int .u64 1] 61 := Blk.below (by (repeat' (first | (with_reducible assumption) | (with_reducible exact Blk.alloc_new _ _ _ (by first | rfl | (simp; done) | omega)) | (with_reducible refine Blk.drewN ?_ _) | (with_reducible refine Blk.drew ?_) | (with_reducible refine Blk.alloc_old ?_ _) | (with_reducible apply Blk.set_same) | (with_reducible refine Blk.set_other ?_ (by first | omega | (simp; done) | (simp; omega)) _) | (exact rfl)))) hb' (by first | (simp; done) | omega | (simp; omega)); have hqC := hkC.cell; have hzC := hkC.size; clear hb')
      | (go_at_call 43; (with_reducible refine (ticks_321 _).mono ?_); rintro e w' ⟨rfl, hb'⟩; have hbx : Below w.heap.size w w' := (by refine Below.trans ?_ (Below.mono hb' ?_) <;> (repeat' (first | (with_reducible exact Below.refl _ _) | (with_reducible assumption) | (with_reducible refine below_drewN ?_ _) | (with_reducible refine Below.drew ?_) | (with_reducible refine Below.alloc ?_ ?_ _) | (with_reducible refine Below.setCell ?_ ?_ _) | go_size))); have hbs := hb'.size; (try simp at hbs); have hkC : Blk w' (w.heap.size) #[.int .u64 3, .int .u64 2, .int .u64 1] 61 := Blk.below (by (repeat' (first | (with_reducible assumption) | (with_reducible exact Blk.alloc_new _ _ _ (by first | rfl | (simp; done) | omega)) | (with_reducible refine Blk.drewN ?_ _) | (with_reducible refine Blk.drew ?_) | (with_reducible refine Blk.alloc_old ?_ _) | (with_reducible apply Blk.set_same) | (with_reducible refine Blk.set_other ?_ (by first | omega | (simp; done) | (simp; omega)) _) | (exact rfl)))) hb' (by first | (simp; done) | omega | (simp; omega)); have hqC := hkC.cell; have hzC := hkC.size; clear hb')
      | (go_at_call 36; (with_reducible refine (scale_b _).mono ?_); rintro e w' ⟨rfl, hb'⟩; have hbx : Below w.heap.size w w' := (by refine Below.trans ?_ (Below.mono hb' ?_) <;> (repeat' (first | (with_reducible exact Below.refl _ _) | (with_reducible assumption) | (with_reducible refine below_drewN ?_ _) | (with_reducible refine Below.drew ?_) | (with_reducible refine Below.alloc ?_ ?_ _) | (with_reducible refine Below.setCell ?_ ?_ _) | go_size))); have hbs := hb'.size; (try simp at hbs); have hkC : Blk w' (w.heap.size) #[.int .u64 3, .int .u64 2, .int .u64 1] 61 := Blk.below (by (repeat' (first | (with_reducible assumption) | (with_reducible exact Blk.alloc_new _ _ _ (by first | rfl | (simp; done) | omega)) | (with_reducible refine Blk.drewN ?_ _) | (with_reducible refine Blk.drew ?_) | (with_reducible refine Blk.alloc_old ?_ _) | (with_reducible apply Blk.set_same) | (with_reducible refine Blk.set_other ?_ (by first | omega | (simp; done) | (simp; omega)) _) | (exact rfl)))) hb' (by first | (simp; done) | omega | (simp; omega)); have hqC := hkC.cell; have hzC := hkC.size; clear hb'))
  all_goals
    go_wp2
    go_ret
    exact ⟨rfl, by (repeat' (first | (with_reducible exact Below.refl _ _) | (with_reducible assumption) | (with_reducible refine below_drewN ?_ _) | (with_reducible refine Below.drew ?_) | (with_reducible refine Below.alloc ?_ ?_ _) | (with_reducible refine Below.setCell ?_ ?_ _) | go_size))⟩
end Go.Proofs.Ytiaciibnakiikaa
