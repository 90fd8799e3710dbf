/-
  The statement LinesServe: from its beginning on a run is the curve's service; when it reaches more. Conditions: none.
-/
import Derived.Test.YtaaoadbcgnedkaaLawE1
import Derived.Test.YtaaoadbcgnedkaaRunS
namespace Go.Proofs.Ytaaoadbcgnedkaa
open Go.ChangeShapes Go.WideShapes Go.ChangeAt Go.RowKit
open Go.Sort
set_option linter.unusedVariables false
set_option linter.unusedSimpArgs false
theorem small_x (x y : Int) (w : World) (hx : ¬ x < 4611686018427387904) :
    Calls Try.prog 18 #[.agg #[.int .u64 x, .int .u64 (hi y), .int .u64 (lo y)]] w fun e w' => e = .returned (.bool false) ∧ Below w.heap.size w w' := by
  have d1 : decide (x < 4611686018427387904) = false := decide_eq_false hx
  go_enter Try.func18, Try.ntmps18
  go_wp2
  go_ret
  exact ⟨rfl, by (repeat' (first | (with_reducible exact Below.refl _ _) | (with_reducible assumption) | (with_reducible refine below_drewN ?_ _) | (with_reducible refine Below.drew ?_) | (with_reducible refine Below.alloc ?_ ?_ _) | (with_reducible refine Below.setCell ?_ ?_ _) | go_size))⟩
theorem small_y (x y : Int) (w : World) (hx : x < 4611686018427387904) (hy : ¬ hi y < 1073741824) :
    Calls Try.prog 18 #[.agg #[.int .u64 x, .int .u64 (hi y), .int .u64 (lo y)]] w fun e w' => e = .returned (.bool false) ∧ Below w.heap.size w w' := by
  have d1 : decide (x < 4611686018427387904) = true := decide_eq_true hx
  have d2 : decide (hi y < 1073741824) = false := decide_eq_false hy
  go_enter Try.func18, Try.ntmps18
  go_wp2
  go_ret
  exact ⟨rfl, by (repeat' (first | (with_reducible exact Below.refl _ _) | (with_reducible assumption) | (with_reducible refine below_drewN ?_ _) | (with_reducible refine Below.drew ?_) | (with_reducible refine Below.alloc ?_ ?_ _) | (with_reducible refine Below.setCell ?_ ?_ _) | go_size))⟩
theorem small_ok (x y : Int) (w : World) (hx : x < 4611686018427387904) (hy : hi y < 1073741824) :
    Calls Try.prog 18 #[.agg #[.int .u64 x, .int .u64 (hi y), .int .u64 (lo y)]] w fun e w' => e = .returned (.bool true) ∧ Below w.heap.size w w' := by
  have d1 : decide (x < 4611686018427387904) = true := decide_eq_true hx
  have d2 : decide (hi y < 1073741824) = true := decide_eq_true hy
  go_enter Try.func18, Try.ntmps18
  go_wp2
  go_ret
  exact ⟨rfl, by (repeat' (first | (with_reducible exact Below.refl _ _) | (with_reducible assumption) | (with_reducible refine below_drewN ?_ _) | (with_reducible refine Below.drew ?_) | (with_reducible refine Below.alloc ?_ ?_ _) | (with_reducible refine Below.setCell ?_ ?_ _) | go_size))⟩
theorem small06 (x y : Int) (b : Bool) (w : World) (hb : (decide (x < 4611686018427387904) && decide (hi y < 1073741824)) = b) :
    Calls Try.prog 18 #[.agg #[.int .u64 x, .int .u64 (hi y), .int .u64 (lo y)]] w fun e w' => e = .returned (.bool b) ∧ Below w.heap.size w w' := by
  subst hb
  by_cases h1 : x < 4611686018427387904
  · by_cases h2 : hi y < 1073741824
    · rw [decide_eq_true h1, decide_eq_true h2]; exact small_ok x y w h1 h2
    · rw [decide_eq_true h1, decide_eq_false h2]; exact small_y x y w h1 h2
  · rw [decide_eq_false h1]; exact small_x x y w h1
theorem fin_of {x y : Int} (hx : 0 ≤ x) (hy : In128 y) (hb : (decide (x < 4611686018427387904) && decide (hi y < 1073741824)) = true) : x < 4611686018427387904 ∧ FIn x y := by
  simp only [Bool.and_eq_true, decide_eq_true_eq] at hb
  unfold hi In128 at *; unfold FIn
  omega
theorem SV_a (m d n x y t : Int) (w : World) (hb : (decide (x < 4611686018427387904) && decide (hi y < 1073741824)) = false) :
    Calls Try.prog 4 #[.agg #[.int .u64 m, .int .u64 d, .int .u64 n], .agg #[.int .u64 x, .int .u64 (hi y), .int .u64 (lo y)], .int .u64 t] w fun e w' => e = .returned (.bool true) ∧ Below w.heap.size w w' := by
  have Hb := hide hb; clear hb
  go_enter Try.func4, Try.ntmps4
  go_wp2_with fail
  refine (small06 x y false _ Hb.out).mono ?_
  rintro e w1 ⟨rfl, hb1⟩
  have C1 : Blk w1 (w.heap.size) #[.int .u64 m, .int .u64 d, .int .u64 n] 24 := Blk.below (by (repeat' (first | (with_reducible assumption) | (with_reducible exact Blk.alloc_new _ _ _ (by first | rfl | (simp; done) | omega)) | (with_reducible apply Blk.drewN) | (with_reducible apply Blk.drew) | (with_reducible apply Blk.alloc_old) | (with_reducible apply Blk.set_same) | (with_reducible apply Blk.set_other) | (show (_ : Nat) ≠ _; first | omega | (simp; done) | (simp; omega)) | ((simp only [List.setIfInBounds_toArray, List.set_cons_succ, List.set_cons_zero]); (with_reducible exact rfl)) | (with_reducible exact rfl) | (show (_ : Array Value) = _; exact rfl)))) hb1 (by first | (simp; done) | omega | (simp; omega))
  have F1 : Blk w1 (w.heap.size + 1) #[.int .u64 x, .int .u64 (hi (y)), .int .u64 (lo (y))] 28 := Blk.below (by (repeat' (first | (with_reducible assumption) | (with_reducible exact Blk.alloc_new _ _ _ (by first | rfl | (simp; done) | omega)) | (with_reducible apply Blk.drewN) | (with_reducible apply Blk.drew) | (with_reducible apply Blk.alloc_old) | (with_reducible apply Blk.set_same) | (with_reducible apply Blk.set_other) | (show (_ : Nat) ≠ _; first | omega | (simp; done) | (simp; omega)) | ((simp only [List.setIfInBounds_toArray, List.set_cons_succ, List.set_cons_zero]); (with_reducible exact rfl)) | (with_reducible exact rfl) | (show (_ : Array Value) = _; exact rfl)))) hb1 (by first | (simp; done) | omega | (simp; omega))
  have g1 : Below w.heap.size w w1 := by refine Below.trans ?_ (hb1.mono ?_) <;> (repeat' (first | (with_reducible exact Below.refl _ _) | (with_reducible assumption) | (with_reducible refine below_drewN ?_ _) | (with_reducible refine Below.drew ?_) | (with_reducible refine Below.alloc ?_ ?_ _) | (with_reducible refine Below.setCell ?_ ?_ _) | go_size))
  have hz1 := hb1.size
  (try simp at hz1)
  clear hb1
  replace cC := C1.cell
  replace fC := C1.frozen
  replace zC := C1.size
  replace cF := F1.cell
  replace fF := F1.frozen
  replace zF := F1.size
  go_wp2_with fail
  refine (hundred06 _).mono ?_
  rintro e w2 ⟨rfl, hb2⟩
  have g2 : Below w.heap.size w w2 := by refine Below.trans ?_ (hb2.mono ?_) <;> (repeat' (first | (with_reducible exact Below.refl _ _) | (with_reducible assumption) | (with_reducible refine below_drewN ?_ _) | (with_reducible refine Below.drew ?_) | (with_reducible refine Below.alloc ?_ ?_ _) | (with_reducible refine Below.setCell ?_ ?_ _) | go_size))
  have hz2 := hb2.size
  (try simp at hz2)
  clear hb2
  go_wp2
  go_ret
  exact ⟨rfl, by (repeat' (first | (with_reducible exact Below.refl _ _) | (with_reducible assumption) | (with_reducible refine below_drewN ?_ _) | (with_reducible refine Below.drew ?_) | (with_reducible refine Below.alloc ?_ ?_ _) | (with_reducible refine Below.setCell ?_ ?_ _) | go_size))⟩
theorem SV_b (m d n x y t : Int) (w : World) (hb : (decide (x < 4611686018427387904) && decide (hi y < 1073741824)) = true) (ht : decide (4611686018427387904 ≤ t) = true) :
    Calls Try.prog 4 #[.agg #[.int .u64 m, .int .u64 d, .int .u64 n], .agg #[.int .u64 x, .int .u64 (hi y), .int .u64 (lo y)], .int .u64 t] w fun e w' => e = .returned (.bool true) ∧ Below w.heap.size w w' := by
  have Hb := hide hb; clear hb
  go_enter Try.func4, Try.ntmps4
  go_wp2_with fail
  refine (small06 x y true _ Hb.out).mono ?_
  rintro e w1 ⟨rfl, hb1⟩
  have C1 : Blk w1 (w.heap.size) #[.int .u64 m, .int .u64 d, .int .u64 n] 24 := Blk.below (by (repeat' (first | (with_reducible assumption) | (with_reducible exact Blk.alloc_new _ _ _ (by first | rfl | (simp; done) | omega)) | (with_reducible apply Blk.drewN) | (with_reducible apply Blk.drew) | (with_reducible apply Blk.alloc_old) | (with_reducible apply Blk.set_same) | (with_reducible apply Blk.set_other) | (show (_ : Nat) ≠ _; first | omega | (simp; done) | (simp; omega)) | ((simp only [List.setIfInBounds_toArray, List.set_cons_succ, List.set_cons_zero]); (with_reducible exact rfl)) | (with_reducible exact rfl) | (show (_ : Array Value) = _; exact rfl)))) hb1 (by first | (simp; done) | omega | (simp; omega))
  have F1 : Blk w1 (w.heap.size + 1) #[.int .u64 x, .int .u64 (hi (y)), .int .u64 (lo (y))] 28 := Blk.below (by (repeat' (first | (with_reducible assumption) | (with_reducible exact Blk.alloc_new _ _ _ (by first | rfl | (simp; done) | omega)) | (with_reducible apply Blk.drewN) | (with_reducible apply Blk.drew) | (with_reducible apply Blk.alloc_old) | (with_reducible apply Blk.set_same) | (with_reducible apply Blk.set_other) | (show (_ : Nat) ≠ _; first | omega | (simp; done) | (simp; omega)) | ((simp only [List.setIfInBounds_toArray, List.set_cons_succ, List.set_cons_zero]); (with_reducible exact rfl)) | (with_reducible exact rfl) | (show (_ : Array Value) = _; exact rfl)))) hb1 (by first | (simp; done) | omega | (simp; omega))
  have g1 : Below w.heap.size w w1 := by refine Below.trans ?_ (hb1.mono ?_) <;> (repeat' (first | (with_reducible exact Below.refl _ _) | (with_reducible assumption) | (with_reducible refine below_drewN ?_ _) | (with_reducible refine Below.drew ?_) | (with_reducible refine Below.alloc ?_ ?_ _) | (with_reducible refine Below.setCell ?_ ?_ _) | go_size))
  have hz1 := hb1.size
  (try simp at hz1)
  clear hb1
  replace cC := C1.cell
  replace fC := C1.frozen
  replace zC := C1.size
  replace cF := F1.cell
  replace fF := F1.frozen
  replace zF := F1.size
  go_wp2_with fail
  refine (hundred06 _).mono ?_
  rintro e w2 ⟨rfl, hb2⟩
  have g2 : Below w.heap.size w w2 := by refine Below.trans ?_ (hb2.mono ?_) <;> (repeat' (first | (with_reducible exact Below.refl _ _) | (with_reducible assumption) | (with_reducible refine below_drewN ?_ _) | (with_reducible refine Below.drew ?_) | (with_reducible refine Below.alloc ?_ ?_ _) | (with_reducible refine Below.setCell ?_ ?_ _) | go_size))
  have hz2 := hb2.size
  (try simp at hz2)
  clear hb2
  go_wp2
  go_ret
  exact ⟨rfl, by (repeat' (first | (with_reducible exact Below.refl _ _) | (with_reducible assumption) | (with_reducible refine below_drewN ?_ _) | (with_reducible refine Below.drew ?_) | (with_reducible refine Below.alloc ?_ ?_ _) | (with_reducible refine Below.setCell ?_ ?_ _) | go_size))⟩
theorem SV_c (m d n x y t : Int) (w : World) (hb : (decide (x < 4611686018427387904) && decide (hi y < 1073741824)) = true) (ht : decide (4611686018427387904 ≤ t) = false) (hk : (kd m d n != 0) = false) (hm : 0 ≤ m) (hd : 0 ≤ d) (hn : 0 ≤ n) :
    Calls Try.prog 4 #[.agg #[.int .u64 m, .int .u64 d, .int .u64 n], .agg #[.int .u64 x, .int .u64 (hi y), .int .u64 (lo y)], .int .u64 t] w fun e w' => e = .returned (.bool true) ∧ Below w.heap.size w w' := by
  have Hb := hide hb; clear hb
  have Hk := hide hk; clear hk
  go_enter Try.func4, Try.ntmps4
  go_wp2_with fail
  refine (small06 x y true _ Hb.out).mono ?_
  rintro e w1 ⟨rfl, hb1⟩
  have C1 : Blk w1 (w.heap.size) #[.int .u64 m, .int .u64 d, .int .u64 n] 24 := Blk.below (by (repeat' (first | (with_reducible assumption) | (with_reducible exact Blk.alloc_new _ _ _ (by first | rfl | (simp; done) | omega)) | (with_reducible apply Blk.drewN) | (with_reducible apply Blk.drew) | (with_reducible apply Blk.alloc_old) | (with_reducible apply Blk.set_same) | (with_reducible apply Blk.set_other) | (show (_ : Nat) ≠ _; first | omega | (simp; done) | (simp; omega)) | ((simp only [List.setIfInBounds_toArray, List.set_cons_succ, List.set_cons_zero]); (with_reducible exact rfl)) | (with_reducible exact rfl) | (show (_ : Array Value) = _; exact rfl)))) hb1 (by first | (simp; done) | omega | (simp; omega))
  have F1 : Blk w1 (w.heap.size + 1) #[.int .u64 x, .int .u64 (hi (y)), .int .u64 (lo (y))] 28 := Blk.below (by (repeat' (first | (with_reducible assumption) | (with_reducible exact Blk.alloc_new _ _ _ (by first | rfl | (simp; done) | omega)) | (with_reducible apply Blk.drewN) | (with_reducible apply Blk.drew) | (with_reducible apply Blk.alloc_old) | (with_reducible apply Blk.set_same) | (with_reducible apply Blk.set_other) | (show (_ : Nat) ≠ _; first | omega | (simp; done) | (simp; omega)) | ((simp only [List.setIfInBounds_toArray, List.set_cons_succ, List.set_cons_zero]); (with_reducible exact rfl)) | (with_reducible exact rfl) | (show (_ : Array Value) = _; exact rfl)))) hb1 (by first | (simp; done) | omega | (simp; omega))
  have g1 : Below w.heap.size w w1 := by refine Below.trans ?_ (hb1.mono ?_) <;> (repeat' (first | (with_reducible exact Below.refl _ _) | (with_reducible assumption) | (with_reducible refine below_drewN ?_ _) | (with_reducible refine Below.drew ?_) | (with_reducible refine Below.alloc ?_ ?_ _) | (with_reducible refine Below.setCell ?_ ?_ _) | go_size))
  have hz1 := hb1.size
  (try simp at hz1)
  clear hb1
  replace cC := C1.cell
  replace fC := C1.frozen
  replace zC := C1.size
  replace cF := F1.cell
  replace fF := F1.frozen
  replace zF := F1.size
  go_wp2_with fail
  refine (crightC m d n _ ⟨hm, hd, hn⟩ false Hk.out).mono ?_
  rintro e w2 ⟨rfl, hb2⟩
  have C2 : Blk w2 (w.heap.size) #[.int .u64 m, .int .u64 d, .int .u64 n] 24 := Blk.below (by (repeat' (first | (with_reducible assumption) | (with_reducible exact Blk.alloc_new _ _ _ (by first | rfl | (simp; done) | omega)) | (with_reducible apply Blk.drewN) | (with_reducible apply Blk.drew) | (with_reducible apply Blk.alloc_old) | (with_reducible apply Blk.set_same) | (with_reducible apply Blk.set_other) | (show (_ : Nat) ≠ _; first | omega | (simp; done) | (simp; omega)) | ((simp only [List.setIfInBounds_toArray, List.set_cons_succ, List.set_cons_zero]); (with_reducible exact rfl)) | (with_reducible exact rfl) | (show (_ : Array Value) = _; exact rfl)))) hb2 (by first | (simp; done) | omega | (simp; omega))
  have F2 : Blk w2 (w.heap.size + 1) #[.int .u64 x, .int .u64 (hi (y)), .int .u64 (lo (y))] 28 := Blk.below (by (repeat' (first | (with_reducible assumption) | (with_reducible exact Blk.alloc_new _ _ _ (by first | rfl | (simp; done) | omega)) | (with_reducible apply Blk.drewN) | (with_reducible apply Blk.drew) | (with_reducible apply Blk.alloc_old) | (with_reducible apply Blk.set_same) | (with_reducible apply Blk.set_other) | (show (_ : Nat) ≠ _; first | omega | (simp; done) | (simp; omega)) | ((simp only [List.setIfInBounds_toArray, List.set_cons_succ, List.set_cons_zero]); (with_reducible exact rfl)) | (with_reducible exact rfl) | (show (_ : Array Value) = _; exact rfl)))) hb2 (by first | (simp; done) | omega | (simp; omega))
  have g2 : Below w.heap.size w w2 := by refine Below.trans ?_ (hb2.mono ?_) <;> (repeat' (first | (with_reducible exact Below.refl _ _) | (with_reducible assumption) | (with_reducible refine below_drewN ?_ _) | (with_reducible refine Below.drew ?_) | (with_reducible refine Below.alloc ?_ ?_ _) | (with_reducible refine Below.setCell ?_ ?_ _) | go_size))
  have hz2 := hb2.size
  (try simp at hz2)
  clear hb2
  replace cC := C2.cell
  replace fC := C2.frozen
  replace zC := C2.size
  replace cF := F2.cell
  replace fF := F2.frozen
  replace zF := F2.size
  go_wp2_with fail
  refine (hundred06 _).mono ?_
  rintro e w3 ⟨rfl, hb3⟩
  have g3 : Below w.heap.size w w3 := by refine Below.trans ?_ (hb3.mono ?_) <;> (repeat' (first | (with_reducible exact Below.refl _ _) | (with_reducible assumption) | (with_reducible refine below_drewN ?_ _) | (with_reducible refine Below.drew ?_) | (with_reducible refine Below.alloc ?_ ?_ _) | (with_reducible refine Below.setCell ?_ ?_ _) | go_size))
  have hz3 := hb3.size
  (try simp at hz3)
  clear hb3
  go_wp2
  go_ret
  exact ⟨rfl, by (repeat' (first | (with_reducible exact Below.refl _ _) | (with_reducible assumption) | (with_reducible refine below_drewN ?_ _) | (with_reducible refine Below.drew ?_) | (with_reducible refine Below.alloc ?_ ?_ _) | (with_reducible refine Below.setCell ?_ ?_ _) | go_size))⟩
set_option maxRecDepth 100000 in
set_option maxHeartbeats 4000000 in
theorem SV_d (m d n x y t s u v c1 W g p c2 q c3 : Int) (r rr : RN) (w : World) (hb : (decide (x < 4611686018427387904) && decide (hi y < 1073741824)) = true) (hm : 0 ≤ m ∧ m ≤ 18446744073709551615) (hd : 0 ≤ d ∧ d ≤ 18446744073709551615) (hn : 0 ≤ n ∧ n ≤ 18446744073709551615) (hk : (kd m d n != 0) = true) (hx : 0 ≤ x ∧ x < 4611686018427387904) (hy : In128 y) (ht : 0 ≤ t ∧ t < 4611686018427387904) (hr : RN.start m d n x y = r) (or : r.ok) (hrr : RN.ready m d n x y = rr) (orr : rr.ok)
    (hs : sk m d n t = s) (s1 : In128 s) (hu : y + s = u) (u1 : In128 u) (hru : r.at (x + t) = u) (hv : rr.at (x + t) = v) (v1 : In128 v) (hc1 : cmp v u = c1) (k1 : decide (c1 < 0) = false) (hW : u + 1 = W) (W1 : In128 W) (hg : r.reach W = g) (hg0 : 0 ≤ g ∧ g ≤ 9223372036854775808) (hn9 : (g == 9223372036854775808) = true) :
    Calls Try.prog 4 #[.agg #[.int .u64 m, .int .u64 d, .int .u64 n], .agg #[.int .u64 x, .int .u64 (hi y), .int .u64 (lo y)], .int .u64 t] w fun e w' => e = .returned (.bool true) ∧ Below w.heap.size w w' := by
  have Hhb := hide hb; have Hhk := hide hk; have Hhr := hide hr; have Hhrr := hide hrr; have Hhs := hide hs; have Hhu := hide hu; have Hhru := hide hru; have Hhv := hide hv; have Hhc1 := hide hc1; have HhW := hide hW; have Hhg := hide hg; clear hb hk hr hrr hs hu hru hv hc1 hW hg
  have d1 : decide (4611686018427387904 ≤ t) = false := decide_eq_false (by omega)
  have hwr : IntKind.u64.wrap (x + t) = x + t := IntWalk.u64_in _ ⟨by omega, by omega⟩
  have hne := wneq u u false u1 u1 (by simp)
  go_enter Try.func4, Try.ntmps4
  go_wp2_with fail
  refine (small06 x y true _ Hhb.out).mono ?_
  rintro e w1 ⟨rfl, hb1⟩
  have C1 : Blk w1 (w.heap.size) #[.int .u64 m, .int .u64 d, .int .u64 n] 24 := Blk.below (by (repeat' (first | (with_reducible assumption) | (with_reducible exact Blk.alloc_new _ _ _ (by first | rfl | (simp; done) | omega)) | (with_reducible apply Blk.drewN) | (with_reducible apply Blk.drew) | (with_reducible apply Blk.alloc_old) | (with_reducible apply Blk.set_same) | (with_reducible apply Blk.set_other) | (show (_ : Nat) ≠ _; first | omega | (simp; done) | (simp; omega)) | ((simp only [List.setIfInBounds_toArray, List.set_cons_succ, List.set_cons_zero]); (with_reducible exact rfl)) | (with_reducible exact rfl) | (show (_ : Array Value) = _; exact rfl)))) hb1 (by first | (simp; done) | omega | (simp; omega))
  have F1 : Blk w1 (w.heap.size + 1) #[.int .u64 x, .int .u64 (hi (y)), .int .u64 (lo (y))] 28 := Blk.below (by (repeat' (first | (with_reducible assumption) | (with_reducible exact Blk.alloc_new _ _ _ (by first | rfl | (simp; done) | omega)) | (with_reducible apply Blk.drewN) | (with_reducible apply Blk.drew) | (with_reducible apply Blk.alloc_old) | (with_reducible apply Blk.set_same) | (with_reducible apply Blk.set_other) | (show (_ : Nat) ≠ _; first | omega | (simp; done) | (simp; omega)) | ((simp only [List.setIfInBounds_toArray, List.set_cons_succ, List.set_cons_zero]); (with_reducible exact rfl)) | (with_reducible exact rfl) | (show (_ : Array Value) = _; exact rfl)))) hb1 (by first | (simp; done) | omega | (simp; omega))
  have g1 : Below w.heap.size w w1 := by refine Below.trans ?_ (hb1.mono ?_) <;> (repeat' (first | (with_reducible exact Below.refl _ _) | (with_reducible assumption) | (with_reducible refine below_drewN ?_ _) | (with_reducible refine Below.drew ?_) | (with_reducible refine Below.alloc ?_ ?_ _) | (with_reducible refine Below.setCell ?_ ?_ _) | go_size))
  have hz1 := hb1.size
  (try simp at hz1)
  clear hb1
  replace cC := C1.cell
  replace fC := C1.frozen
  replace zC := C1.size
  replace cF := F1.cell
  replace fF := F1.frozen
  replace zF := F1.size
  go_wp2_with fail
  refine (crightC m d n _ ⟨hm.1, hd.1, hn.1⟩ true Hhk.out).mono ?_
  rintro e w2 ⟨rfl, hb2⟩
  have C2 : Blk w2 (w.heap.size) #[.int .u64 m, .int .u64 d, .int .u64 n] 24 := Blk.below (by (repeat' (first | (with_reducible assumption) | (with_reducible exact Blk.alloc_new _ _ _ (by first | rfl | (simp; done) | omega)) | (with_reducible apply Blk.drewN) | (with_reducible apply Blk.drew) | (with_reducible apply Blk.alloc_old) | (with_reducible apply Blk.set_same) | (with_reducible apply Blk.set_other) | (show (_ : Nat) ≠ _; first | omega | (simp; done) | (simp; omega)) | ((simp only [List.setIfInBounds_toArray, List.set_cons_succ, List.set_cons_zero]); (with_reducible exact rfl)) | (with_reducible exact rfl) | (show (_ : Array Value) = _; exact rfl)))) hb2 (by first | (simp; done) | omega | (simp; omega))
  have F2 : Blk w2 (w.heap.size + 1) #[.int .u64 x, .int .u64 (hi (y)), .int .u64 (lo (y))] 28 := Blk.below (by (repeat' (first | (with_reducible assumption) | (with_reducible exact Blk.alloc_new _ _ _ (by first | rfl | (simp; done) | omega)) | (with_reducible apply Blk.drewN) | (with_reducible apply Blk.drew) | (with_reducible apply Blk.alloc_old) | (with_reducible apply Blk.set_same) | (with_reducible apply Blk.set_other) | (show (_ : Nat) ≠ _; first | omega | (simp; done) | (simp; omega)) | ((simp only [List.setIfInBounds_toArray, List.set_cons_succ, List.set_cons_zero]); (with_reducible exact rfl)) | (with_reducible exact rfl) | (show (_ : Array Value) = _; exact rfl)))) hb2 (by first | (simp; done) | omega | (simp; omega))
  have g2 : Below w.heap.size w w2 := by refine Below.trans ?_ (hb2.mono ?_) <;> (repeat' (first | (with_reducible exact Below.refl _ _) | (with_reducible assumption) | (with_reducible refine below_drewN ?_ _) | (with_reducible refine Below.drew ?_) | (with_reducible refine Below.alloc ?_ ?_ _) | (with_reducible refine Below.setCell ?_ ?_ _) | go_size))
  have hz2 := hb2.size
  (try simp at hz2)
  clear hb2
  replace cC := C2.cell
  replace fC := C2.frozen
  replace zC := C2.size
  replace cF := F2.cell
  replace fF := F2.frozen
  replace zF := F2.size
  go_wp2_with fail
  refine (start_any m d n x y r _ hm hd hn (by omega) hy Hhr.out).mono ?_
  rintro e w3 ⟨rfl, hb3⟩
  have C3 : Blk w3 (w.heap.size) #[.int .u64 m, .int .u64 d, .int .u64 n] 24 := Blk.below (by (repeat' (first | (with_reducible assumption) | (with_reducible exact Blk.alloc_new _ _ _ (by first | rfl | (simp; done) | omega)) | (with_reducible apply Blk.drewN) | (with_reducible apply Blk.drew) | (with_reducible apply Blk.alloc_old) | (with_reducible apply Blk.set_same) | (with_reducible apply Blk.set_other) | (show (_ : Nat) ≠ _; first | omega | (simp; done) | (simp; omega)) | ((simp only [List.setIfInBounds_toArray, List.set_cons_succ, List.set_cons_zero]); (with_reducible exact rfl)) | (with_reducible exact rfl) | (show (_ : Array Value) = _; exact rfl)))) hb3 (by first | (simp; done) | omega | (simp; omega))
  have F3 : Blk w3 (w.heap.size + 1) #[.int .u64 x, .int .u64 (hi (y)), .int .u64 (lo (y))] 28 := Blk.below (by (repeat' (first | (with_reducible assumption) | (with_reducible exact Blk.alloc_new _ _ _ (by first | rfl | (simp; done) | omega)) | (with_reducible apply Blk.drewN) | (with_reducible apply Blk.drew) | (with_reducible apply Blk.alloc_old) | (with_reducible apply Blk.set_same) | (with_reducible apply Blk.set_other) | (show (_ : Nat) ≠ _; first | omega | (simp; done) | (simp; omega)) | ((simp only [List.setIfInBounds_toArray, List.set_cons_succ, List.set_cons_zero]); (with_reducible exact rfl)) | (with_reducible exact rfl) | (show (_ : Array Value) = _; exact rfl)))) hb3 (by first | (simp; done) | omega | (simp; omega))
  have g3 : Below w.heap.size w w3 := by refine Below.trans ?_ (hb3.mono ?_) <;> (repeat' (first | (with_reducible exact Below.refl _ _) | (with_reducible assumption) | (with_reducible refine below_drewN ?_ _) | (with_reducible refine Below.drew ?_) | (with_reducible refine Below.alloc ?_ ?_ _) | (with_reducible refine Below.setCell ?_ ?_ _) | go_size))
  have hz3 := hb3.size
  (try simp at hz3)
  clear hb3
  replace cC := C3.cell
  replace fC := C3.frozen
  replace zC := C3.size
  replace cF := F3.cell
  replace fF := F3.frozen
  replace zF := F3.size
  go_upto_region 4 with (fail)
  refine wp_forget (fun v => Below w.heap.size w v ∧ Blk v (w.heap.size) #[.int .u64 m, .int .u64 d, .int .u64 n] 24 ∧ Blk v (w.heap.size + 1) #[.int .u64 x, .int .u64 (hi (y)), .int .u64 (lo (y))] 28 ∧ Blk v (w3.heap.size) #[.int .u64 r.f.X, .int .u64 (hi (r.f.Y)), .int .u64 (lo (r.f.Y)), .int .u64 r.f.M, .int .u64 r.t.X, .int .u64 (hi (r.t.Y)), .int .u64 (lo (r.t.Y)), .int .u64 r.t.M, .bool r.b] 40) ⟨by (repeat' (first | (with_reducible exact Below.refl _ _) | (with_reducible assumption) | (with_reducible refine below_drewN ?_ _) | (with_reducible refine Below.drew ?_) | (with_reducible refine Below.alloc ?_ ?_ _) | (with_reducible refine Below.setCell ?_ ?_ _) | go_size)), by (repeat' (first | (with_reducible assumption) | (with_reducible exact Blk.alloc_new _ _ _ (by first | rfl | (simp; done) | omega)) | (with_reducible apply Blk.drewN) | (with_reducible apply Blk.drew) | (with_reducible apply Blk.alloc_old) | (with_reducible apply Blk.set_same) | (with_reducible apply Blk.set_other) | (show (_ : Nat) ≠ _; first | omega | (simp; done) | (simp; omega)) | ((simp only [List.setIfInBounds_toArray, List.set_cons_succ, List.set_cons_zero]); (with_reducible exact rfl)) | (with_reducible exact rfl) | (show (_ : Array Value) = _; exact rfl))), by (repeat' (first | (with_reducible assumption) | (with_reducible exact Blk.alloc_new _ _ _ (by first | rfl | (simp; done) | omega)) | (with_reducible apply Blk.drewN) | (with_reducible apply Blk.drew) | (with_reducible apply Blk.alloc_old) | (with_reducible apply Blk.set_same) | (with_reducible apply Blk.set_other) | (show (_ : Nat) ≠ _; first | omega | (simp; done) | (simp; omega)) | ((simp only [List.setIfInBounds_toArray, List.set_cons_succ, List.set_cons_zero]); (with_reducible exact rfl)) | (with_reducible exact rfl) | (show (_ : Array Value) = _; exact rfl))), by (repeat' (first | (with_reducible assumption) | (with_reducible exact Blk.alloc_new _ _ _ (by first | rfl | (simp; done) | omega)) | (with_reducible apply Blk.drewN) | (with_reducible apply Blk.drew) | (with_reducible apply Blk.alloc_old) | (with_reducible apply Blk.set_same) | (with_reducible apply Blk.set_other) | (show (_ : Nat) ≠ _; first | omega | (simp; done) | (simp; omega)) | ((simp only [List.setIfInBounds_toArray, List.set_cons_succ, List.set_cons_zero]); (with_reducible exact rfl)) | (with_reducible exact rfl) | (show (_ : Array Value) = _; exact rfl)))⟩ ?_
  rintro w4 ⟨g4, C4, F4, Z4⟩
  have hz4 := g4.size
  replace cC := C4.cell
  replace fC := C4.frozen
  replace zC := C4.size
  replace cF := F4.cell
  replace fF := F4.frozen
  replace zF := F4.size
  have cZ := Z4.cell
  have fZ := Z4.frozen
  have zZ := Z4.size
  go_cut [8, 9] (fun p8 p9 wx => ∃ X, p8 = .pointer (some ⟨X, 0, none⟩) ∧ p9 = .bool false ∧ Below w.heap.size w wx ∧ Blk wx (w.heap.size) #[.int .u64 m, .int .u64 d, .int .u64 n] 24 ∧ Blk wx (w.heap.size + 1) #[.int .u64 x, .int .u64 (hi (y)), .int .u64 (lo (y))] 28 ∧ Blk wx (w3.heap.size) #[.int .u64 r.f.X, .int .u64 (hi (r.f.Y)), .int .u64 (lo (r.f.Y)), .int .u64 r.f.M, .int .u64 r.t.X, .int .u64 (hi (r.t.Y)), .int .u64 (lo (r.t.Y)), .int .u64 r.t.M, .bool r.b] 40 ∧ Blk wx X #[.int .u64 (hi (u)), .int .u64 (lo (u))] 26)
  case first =>
    go_region_held3 (fun v => (∀ i, v.cell? ⟨w.heap.size, i, none⟩ = #[.int .u64 m, .int .u64 d, .int .u64 n][i]?) ∧ w.heap.size < v.heap.size ∧ Blk v (w.heap.size) #[.int .u64 m, .int .u64 d, .int .u64 n] 24 ∧ (∀ i, v.cell? ⟨w.heap.size + 1, i, none⟩ = #[.int .u64 x, .int .u64 (hi (y)), .int .u64 (lo (y))][i]?) ∧ w.heap.size + 1 < v.heap.size ∧ Blk v (w.heap.size + 1) #[.int .u64 x, .int .u64 (hi (y)), .int .u64 (lo (y))] 28 ∧ (∀ i, v.cell? ⟨w3.heap.size, i, none⟩ = #[.int .u64 r.f.X, .int .u64 (hi (r.f.Y)), .int .u64 (lo (r.f.Y)), .int .u64 r.f.M, .int .u64 r.t.X, .int .u64 (hi (r.t.Y)), .int .u64 (lo (r.t.Y)), .int .u64 r.t.M, .bool r.b][i]?) ∧ w3.heap.size < v.heap.size ∧ Blk v (w3.heap.size) #[.int .u64 r.f.X, .int .u64 (hi (r.f.Y)), .int .u64 (lo (r.f.Y)), .int .u64 r.f.M, .int .u64 r.t.X, .int .u64 (hi (r.t.Y)), .int .u64 (lo (r.t.Y)), .int .u64 r.t.M, .bool r.b] 40 ∧ Below w.heap.size w v)
      (first
        | (refine ⟨?_, ?_, ?_, ?_, ?_, ?_, ?_, ?_, ?_, ?_⟩ <;> first | (with_reducible assumption) | ((repeat' (first | (with_reducible assumption) | (with_reducible exact Blk.alloc_new _ _ _ (by first | rfl | (simp; done) | omega)) | (with_reducible apply Blk.drewN) | (with_reducible apply Blk.drew) | (with_reducible apply Blk.alloc_old) | (with_reducible apply Blk.set_same) | (with_reducible apply Blk.set_other) | (show (_ : Nat) ≠ _; first | omega | (simp; done) | (simp; omega)) | ((simp only [List.setIfInBounds_toArray, List.set_cons_succ, List.set_cons_zero]); (with_reducible exact rfl)) | (with_reducible exact rfl) | (show (_ : Array Value) = _; exact rfl))); done) | ((repeat' (first | (with_reducible exact Below.refl _ _) | (with_reducible assumption) | (with_reducible refine below_drewN ?_ _) | (with_reducible refine Below.drew ?_) | (with_reducible refine Below.alloc ?_ ?_ _) | (with_reducible refine Below.setCell ?_ ?_ _) | go_size)); done) | omega | (go_simp; done) | (simp; done) | (exact Blk.cell (by (repeat' (first | (with_reducible assumption) | (with_reducible exact Blk.alloc_new _ _ _ (by first | rfl | (simp; done) | omega)) | (with_reducible apply Blk.drewN) | (with_reducible apply Blk.drew) | (with_reducible apply Blk.alloc_old) | (with_reducible apply Blk.set_same) | (with_reducible apply Blk.set_other) | (show (_ : Nat) ≠ _; first | omega | (simp; done) | (simp; omega)) | ((simp only [List.setIfInBounds_toArray, List.set_cons_succ, List.set_cons_zero]); (with_reducible exact rfl)) | (with_reducible exact rfl) | (show (_ : Array Value) = _; exact rfl)))))))
      (first
        | (go_at_call 21; (with_reducible refine (service_any m d n t s _ hm.1 hd.1 hn.1 (by omega) Hhs.out).mono ?_); rintro e w' ⟨rfl, hb'⟩; have hbx : Below w.heap.size w w' := (by refine Below.trans ?_ (Below.mono hb' ?_) <;> (repeat' (first | (with_reducible exact Below.refl _ _) | (with_reducible assumption) | (with_reducible refine below_drewN ?_ _) | (with_reducible refine Below.drew ?_) | (with_reducible refine Below.alloc ?_ ?_ _) | (with_reducible refine Below.setCell ?_ ?_ _) | go_size))); have hbs := hb'.size; (try simp at hbs); (try (first | have hX := Blk.below (Blk.alloc_new _ _ _ rfl) hb' (by first | (simp; done) | omega | (simp; omega)) | have hX := Blk.below (Blk.drew (Blk.alloc_new _ _ _ rfl)) hb' (by first | (simp; done) | omega | (simp; omega)) | have hX := Blk.below hX hb' (by first | (simp; done) | omega | (simp; omega)) | have hX := Blk.below hX.drew hb' (by first | (simp; done) | omega | (simp; omega)))); (try simp only [World.size_alloc] at hX); (try (have cX := hX.cell; have fX := hX.frozen; have zX := hX.size)); have hkC : Blk w' (w.heap.size) #[.int .u64 m, .int .u64 d, .int .u64 n] 24 := Blk.below (by (repeat' (first | (with_reducible assumption) | (with_reducible exact Blk.alloc_new _ _ _ (by first | rfl | (simp; done) | omega)) | (with_reducible apply Blk.drewN) | (with_reducible apply Blk.drew) | (with_reducible apply Blk.alloc_old) | (with_reducible apply Blk.set_same) | (with_reducible apply Blk.set_other) | (show (_ : Nat) ≠ _; first | omega | (simp; done) | (simp; omega)) | ((simp only [List.setIfInBounds_toArray, List.set_cons_succ, List.set_cons_zero]); (with_reducible exact rfl)) | (with_reducible exact rfl) | (show (_ : Array Value) = _; exact rfl)))) hb' (by first | (simp; done) | omega | (simp; omega)); have hqC := hkC.cell; have hzC := hkC.size; have hkF : Blk w' (w.heap.size + 1) #[.int .u64 x, .int .u64 (hi (y)), .int .u64 (lo (y))] 28 := Blk.below (by (repeat' (first | (with_reducible assumption) | (with_reducible exact Blk.alloc_new _ _ _ (by first | rfl | (simp; done) | omega)) | (with_reducible apply Blk.drewN) | (with_reducible apply Blk.drew) | (with_reducible apply Blk.alloc_old) | (with_reducible apply Blk.set_same) | (with_reducible apply Blk.set_other) | (show (_ : Nat) ≠ _; first | omega | (simp; done) | (simp; omega)) | ((simp only [List.setIfInBounds_toArray, List.set_cons_succ, List.set_cons_zero]); (with_reducible exact rfl)) | (with_reducible exact rfl) | (show (_ : Array Value) = _; exact rfl)))) hb' (by first | (simp; done) | omega | (simp; omega)); have hqF := hkF.cell; have hzF := hkF.size; have hkZ : Blk w' (w3.heap.size) #[.int .u64 r.f.X, .int .u64 (hi (r.f.Y)), .int .u64 (lo (r.f.Y)), .int .u64 r.f.M, .int .u64 r.t.X, .int .u64 (hi (r.t.Y)), .int .u64 (lo (r.t.Y)), .int .u64 r.t.M, .bool r.b] 40 := Blk.below (by (repeat' (first | (with_reducible assumption) | (with_reducible exact Blk.alloc_new _ _ _ (by first | rfl | (simp; done) | omega)) | (with_reducible apply Blk.drewN) | (with_reducible apply Blk.drew) | (with_reducible apply Blk.alloc_old) | (with_reducible apply Blk.set_same) | (with_reducible apply Blk.set_other) | (show (_ : Nat) ≠ _; first | omega | (simp; done) | (simp; omega)) | ((simp only [List.setIfInBounds_toArray, List.set_cons_succ, List.set_cons_zero]); (with_reducible exact rfl)) | (with_reducible exact rfl) | (show (_ : Array Value) = _; exact rfl)))) hb' (by first | (simp; done) | omega | (simp; omega)); have hqZ := hkZ.cell; have hzZ := hkZ.size; clear hb')
        | (go_at_call 20; (with_reducible refine (wAddD y s u _ hy s1 Hhu.out u1).mono ?_); rintro e w' ⟨rfl, hb'⟩; have hbx : Below w.heap.size w w' := (by refine Below.trans ?_ (Below.mono hb' ?_) <;> (repeat' (first | (with_reducible exact Below.refl _ _) | (with_reducible assumption) | (with_reducible refine below_drewN ?_ _) | (with_reducible refine Below.drew ?_) | (with_reducible refine Below.alloc ?_ ?_ _) | (with_reducible refine Below.setCell ?_ ?_ _) | go_size))); have hbs := hb'.size; (try simp at hbs); (try (first | have hX := Blk.below (Blk.alloc_new _ _ _ rfl) hb' (by first | (simp; done) | omega | (simp; omega)) | have hX := Blk.below (Blk.drew (Blk.alloc_new _ _ _ rfl)) hb' (by first | (simp; done) | omega | (simp; omega)) | have hX := Blk.below hX hb' (by first | (simp; done) | omega | (simp; omega)) | have hX := Blk.below hX.drew hb' (by first | (simp; done) | omega | (simp; omega)))); (try simp only [World.size_alloc] at hX); (try (have cX := hX.cell; have fX := hX.frozen; have zX := hX.size)); have hkC : Blk w' (w.heap.size) #[.int .u64 m, .int .u64 d, .int .u64 n] 24 := Blk.below (by (repeat' (first | (with_reducible assumption) | (with_reducible exact Blk.alloc_new _ _ _ (by first | rfl | (simp; done) | omega)) | (with_reducible apply Blk.drewN) | (with_reducible apply Blk.drew) | (with_reducible apply Blk.alloc_old) | (with_reducible apply Blk.set_same) | (with_reducible apply Blk.set_other) | (show (_ : Nat) ≠ _; first | omega | (simp; done) | (simp; omega)) | ((simp only [List.setIfInBounds_toArray, List.set_cons_succ, List.set_cons_zero]); (with_reducible exact rfl)) | (with_reducible exact rfl) | (show (_ : Array Value) = _; exact rfl)))) hb' (by first | (simp; done) | omega | (simp; omega)); have hqC := hkC.cell; have hzC := hkC.size; have hkF : Blk w' (w.heap.size + 1) #[.int .u64 x, .int .u64 (hi (y)), .int .u64 (lo (y))] 28 := Blk.below (by (repeat' (first | (with_reducible assumption) | (with_reducible exact Blk.alloc_new _ _ _ (by first | rfl | (simp; done) | omega)) | (with_reducible apply Blk.drewN) | (with_reducible apply Blk.drew) | (with_reducible apply Blk.alloc_old) | (with_reducible apply Blk.set_same) | (with_reducible apply Blk.set_other) | (show (_ : Nat) ≠ _; first | omega | (simp; done) | (simp; omega)) | ((simp only [List.setIfInBounds_toArray, List.set_cons_succ, List.set_cons_zero]); (with_reducible exact rfl)) | (with_reducible exact rfl) | (show (_ : Array Value) = _; exact rfl)))) hb' (by first | (simp; done) | omega | (simp; omega)); have hqF := hkF.cell; have hzF := hkF.size; have hkZ : Blk w' (w3.heap.size) #[.int .u64 r.f.X, .int .u64 (hi (r.f.Y)), .int .u64 (lo (r.f.Y)), .int .u64 r.f.M, .int .u64 r.t.X, .int .u64 (hi (r.t.Y)), .int .u64 (lo (r.t.Y)), .int .u64 r.t.M, .bool r.b] 40 := Blk.below (by (repeat' (first | (with_reducible assumption) | (with_reducible exact Blk.alloc_new _ _ _ (by first | rfl | (simp; done) | omega)) | (with_reducible apply Blk.drewN) | (with_reducible apply Blk.drew) | (with_reducible apply Blk.alloc_old) | (with_reducible apply Blk.set_same) | (with_reducible apply Blk.set_other) | (show (_ : Nat) ≠ _; first | omega | (simp; done) | (simp; omega)) | ((simp only [List.setIfInBounds_toArray, List.set_cons_succ, List.set_cons_zero]); (with_reducible exact rfl)) | (with_reducible exact rfl) | (show (_ : Array Value) = _; exact rfl)))) hb' (by first | (simp; done) | omega | (simp; omega)); have hqZ := hkZ.cell; have hzZ := hkZ.size; clear hb'))
    all_goals
      go_wp2_with fail
      go_meet
      exact ⟨_, rfl, rfl, by (repeat' (first | (with_reducible exact Below.refl _ _) | (with_reducible assumption) | (with_reducible refine below_drewN ?_ _) | (with_reducible refine Below.drew ?_) | (with_reducible refine Below.alloc ?_ ?_ _) | (with_reducible refine Below.setCell ?_ ?_ _) | go_size)), by (repeat' (first | (with_reducible assumption) | (with_reducible exact Blk.alloc_new _ _ _ (by first | rfl | (simp; done) | omega)) | (with_reducible apply Blk.drewN) | (with_reducible apply Blk.drew) | (with_reducible apply Blk.alloc_old) | (with_reducible apply Blk.set_same) | (with_reducible apply Blk.set_other) | (show (_ : Nat) ≠ _; first | omega | (simp; done) | (simp; omega)) | ((simp only [List.setIfInBounds_toArray, List.set_cons_succ, List.set_cons_zero]); (with_reducible exact rfl)) | (with_reducible exact rfl) | (show (_ : Array Value) = _; exact rfl))), by (repeat' (first | (with_reducible assumption) | (with_reducible exact Blk.alloc_new _ _ _ (by first | rfl | (simp; done) | omega)) | (with_reducible apply Blk.drewN) | (with_reducible apply Blk.drew) | (with_reducible apply Blk.alloc_old) | (with_reducible apply Blk.set_same) | (with_reducible apply Blk.set_other) | (show (_ : Nat) ≠ _; first | omega | (simp; done) | (simp; omega)) | ((simp only [List.setIfInBounds_toArray, List.set_cons_succ, List.set_cons_zero]); (with_reducible exact rfl)) | (with_reducible exact rfl) | (show (_ : Array Value) = _; exact rfl))), by (repeat' (first | (with_reducible assumption) | (with_reducible exact Blk.alloc_new _ _ _ (by first | rfl | (simp; done) | omega)) | (with_reducible apply Blk.drewN) | (with_reducible apply Blk.drew) | (with_reducible apply Blk.alloc_old) | (with_reducible apply Blk.set_same) | (with_reducible apply Blk.set_other) | (show (_ : Nat) ≠ _; first | omega | (simp; done) | (simp; omega)) | ((simp only [List.setIfInBounds_toArray, List.set_cons_succ, List.set_cons_zero]); (with_reducible exact rfl)) | (with_reducible exact rfl) | (show (_ : Array Value) = _; exact rfl))), by (repeat' (first | (with_reducible assumption) | (with_reducible exact Blk.alloc_new _ _ _ (by first | rfl | (simp; done) | omega)) | (with_reducible apply Blk.drewN) | (with_reducible apply Blk.drew) | (with_reducible apply Blk.alloc_old) | (with_reducible apply Blk.set_same) | (with_reducible apply Blk.set_other) | (show (_ : Nat) ≠ _; first | omega | (simp; done) | (simp; omega)) | ((simp only [List.setIfInBounds_toArray, List.set_cons_succ, List.set_cons_zero]); (with_reducible exact rfl)) | (with_reducible exact rfl) | (show (_ : Array Value) = _; exact rfl)))⟩
  case rest =>
    obtain ⟨PX, rfl, rfl, g5, C5, F5, Z5, X5⟩ := hcut
    have hz5 := g5.size
    have cC := C5.cell; have fC := C5.frozen; have zC := C5.size
    have cF := F5.cell; have fF := F5.frozen; have zF := F5.size
    have cZ := Z5.cell; have fZ := Z5.frozen; have zZ := Z5.size
    have cX := X5.cell; have fX := X5.frozen; have zX := X5.size
    go_wp2_with fail
    refine wp_forget (fun v => Below w.heap.size w v ∧ Blk v (w.heap.size) #[.int .u64 m, .int .u64 d, .int .u64 n] 24 ∧ Blk v (w.heap.size + 1) #[.int .u64 x, .int .u64 (hi (y)), .int .u64 (lo (y))] 28 ∧ Blk v (w3.heap.size) #[.int .u64 r.f.X, .int .u64 (hi (r.f.Y)), .int .u64 (lo (r.f.Y)), .int .u64 r.f.M, .int .u64 r.t.X, .int .u64 (hi (r.t.Y)), .int .u64 (lo (r.t.Y)), .int .u64 r.t.M, .bool r.b] 40 ∧ Blk v (PX) #[.int .u64 (hi (u)), .int .u64 (lo (u))] 26) ⟨by (repeat' (first | (with_reducible exact Below.refl _ _) | (with_reducible assumption) | (with_reducible refine below_drewN ?_ _) | (with_reducible refine Below.drew ?_) | (with_reducible refine Below.alloc ?_ ?_ _) | (with_reducible refine Below.setCell ?_ ?_ _) | go_size)), by (repeat' (first | (with_reducible assumption) | (with_reducible exact Blk.alloc_new _ _ _ (by first | rfl | (simp; done) | omega)) | (with_reducible apply Blk.drewN) | (with_reducible apply Blk.drew) | (with_reducible apply Blk.alloc_old) | (with_reducible apply Blk.set_same) | (with_reducible apply Blk.set_other) | (show (_ : Nat) ≠ _; first | omega | (simp; done) | (simp; omega)) | ((simp only [List.setIfInBounds_toArray, List.set_cons_succ, List.set_cons_zero]); (with_reducible exact rfl)) | (with_reducible exact rfl) | (show (_ : Array Value) = _; exact rfl))), by (repeat' (first | (with_reducible assumption) | (with_reducible exact Blk.alloc_new _ _ _ (by first | rfl | (simp; done) | omega)) | (with_reducible apply Blk.drewN) | (with_reducible apply Blk.drew) | (with_reducible apply Blk.alloc_old) | (with_reducible apply Blk.set_same) | (with_reducible apply Blk.set_other) | (show (_ : Nat) ≠ _; first | omega | (simp; done) | (simp; omega)) | ((simp only [List.setIfInBounds_toArray, List.set_cons_succ, List.set_cons_zero]); (with_reducible exact rfl)) | (with_reducible exact rfl) | (show (_ : Array Value) = _; exact rfl))), by (repeat' (first | (with_reducible assumption) | (with_reducible exact Blk.alloc_new _ _ _ (by first | rfl | (simp; done) | omega)) | (with_reducible apply Blk.drewN) | (with_reducible apply Blk.drew) | (with_reducible apply Blk.alloc_old) | (with_reducible apply Blk.set_same) | (with_reducible apply Blk.set_other) | (show (_ : Nat) ≠ _; first | omega | (simp; done) | (simp; omega)) | ((simp only [List.setIfInBounds_toArray, List.set_cons_succ, List.set_cons_zero]); (with_reducible exact rfl)) | (with_reducible exact rfl) | (show (_ : Array Value) = _; exact rfl))), by (repeat' (first | (with_reducible assumption) | (with_reducible exact Blk.alloc_new _ _ _ (by first | rfl | (simp; done) | omega)) | (with_reducible apply Blk.drewN) | (with_reducible apply Blk.drew) | (with_reducible apply Blk.alloc_old) | (with_reducible apply Blk.set_same) | (with_reducible apply Blk.set_other) | (show (_ : Nat) ≠ _; first | omega | (simp; done) | (simp; omega)) | ((simp only [List.setIfInBounds_toArray, List.set_cons_succ, List.set_cons_zero]); (with_reducible exact rfl)) | (with_reducible exact rfl) | (show (_ : Array Value) = _; exact rfl)))⟩ ?_
    rintro v6 ⟨gv6, Cv6, Fv6, Zv6, Xv6⟩
    have qC6 := blk_calm Cv6
    have qF6 := blk_calm Fv6
    have qZ6 := blk_calm Zv6
    have qX6 := blk_calm Xv6
    refine wp_region_quiet_below (by kernel_rfl) (by kernel_rfl) ?_
    repeat (go_big_quiet_step ((first
        | (go_at_call 22; (with_reducible exact Calls.regrown_of (runat r (x + t) u _ or (by omega) Hhru.out)))
        | (go_at_call 17; (with_reducible exact Calls.regrown_of (ready_any m d n x y rr _ hm hd hn hy Hhrr.out)))
        | (go_at_call 22; (with_reducible exact Calls.regrown_of (runat rr (x + t) v _ orr (by omega) Hhv.out)))
        | (go_at_call 23; (with_reducible exact Calls.regrown_of (wcmpC v u c1 _ v1 u1 Hhc1.out))))))
    refine wpQuiet_nil ?_
    intro _ hw'
    obtain ⟨pq, hw''⟩ := hw'
    subst hw''
    have hb6 := below_regrown v6 pq.d pq.os
    generalize Sort.grow (redrawn v6 pq.d) pq.os = w6 at *
    have C6 : Blk w6 (w.heap.size) #[.int .u64 m, .int .u64 d, .int .u64 n] 24 := Blk.below Cv6 hb6 Cv6.size
    have F6 : Blk w6 (w.heap.size + 1) #[.int .u64 x, .int .u64 (hi (y)), .int .u64 (lo (y))] 28 := Blk.below Fv6 hb6 Fv6.size
    have Z6 : Blk w6 (w3.heap.size) #[.int .u64 r.f.X, .int .u64 (hi (r.f.Y)), .int .u64 (lo (r.f.Y)), .int .u64 r.f.M, .int .u64 r.t.X, .int .u64 (hi (r.t.Y)), .int .u64 (lo (r.t.Y)), .int .u64 r.t.M, .bool r.b] 40 := Blk.below Zv6 hb6 Zv6.size
    have X6 : Blk w6 (PX) #[.int .u64 (hi (u)), .int .u64 (lo (u))] 26 := Blk.below Xv6 hb6 Xv6.size
    have g6 : Below w.heap.size w w6 := gv6.trans (hb6.mono gv6.size)
    have hz6 : w.heap.size ≤ w6.heap.size := g6.size
    clear hb6 gv6 Cv6 qC6 Fv6 qF6 Zv6 qZ6 Xv6 qX6
    replace cC := C6.cell
    replace fC := C6.frozen
    replace zC := C6.size
    replace cF := F6.cell
    replace fF := F6.frozen
    replace zF := F6.size
    replace cZ := Z6.cell
    replace fZ := Z6.frozen
    replace zZ := Z6.size
    replace cX := X6.cell
    replace fX := X6.frozen
    replace zX := X6.size
    go_upto_region 7 with (fail)
    go_cut [10, 11] (fun p10 p11 wx => ∃ X, p10 = .pointer (some ⟨X, 0, none⟩) ∧ p11 = .bool false ∧ Below w.heap.size w wx ∧ Blk wx (w.heap.size) #[.int .u64 m, .int .u64 d, .int .u64 n] 24 ∧ Blk wx (w.heap.size + 1) #[.int .u64 x, .int .u64 (hi (y)), .int .u64 (lo (y))] 28 ∧ Blk wx (w3.heap.size) #[.int .u64 r.f.X, .int .u64 (hi (r.f.Y)), .int .u64 (lo (r.f.Y)), .int .u64 r.f.M, .int .u64 r.t.X, .int .u64 (hi (r.t.Y)), .int .u64 (lo (r.t.Y)), .int .u64 r.t.M, .bool r.b] 40 ∧ Blk wx (PX) #[.int .u64 (hi (u)), .int .u64 (lo (u))] 26 ∧ Blk wx X #[.int .u64 (hi (W)), .int .u64 (lo (W))] 26)
    case first =>
      go_region_held3 (fun v => (∀ i, v.cell? ⟨w.heap.size, i, none⟩ = #[.int .u64 m, .int .u64 d, .int .u64 n][i]?) ∧ w.heap.size < v.heap.size ∧ Blk v (w.heap.size) #[.int .u64 m, .int .u64 d, .int .u64 n] 24 ∧ (∀ i, v.cell? ⟨w.heap.size + 1, i, none⟩ = #[.int .u64 x, .int .u64 (hi (y)), .int .u64 (lo (y))][i]?) ∧ w.heap.size + 1 < v.heap.size ∧ Blk v (w.heap.size + 1) #[.int .u64 x, .int .u64 (hi (y)), .int .u64 (lo (y))] 28 ∧ (∀ i, v.cell? ⟨w3.heap.size, i, none⟩ = #[.int .u64 r.f.X, .int .u64 (hi (r.f.Y)), .int .u64 (lo (r.f.Y)), .int .u64 r.f.M, .int .u64 r.t.X, .int .u64 (hi (r.t.Y)), .int .u64 (lo (r.t.Y)), .int .u64 r.t.M, .bool r.b][i]?) ∧ w3.heap.size < v.heap.size ∧ Blk v (w3.heap.size) #[.int .u64 r.f.X, .int .u64 (hi (r.f.Y)), .int .u64 (lo (r.f.Y)), .int .u64 r.f.M, .int .u64 r.t.X, .int .u64 (hi (r.t.Y)), .int .u64 (lo (r.t.Y)), .int .u64 r.t.M, .bool r.b] 40 ∧ (∀ i, v.cell? ⟨PX, i, none⟩ = #[.int .u64 (hi (u)), .int .u64 (lo (u))][i]?) ∧ PX < v.heap.size ∧ Blk v (PX) #[.int .u64 (hi (u)), .int .u64 (lo (u))] 26 ∧ Below w.heap.size w v)
        (first
          | (refine ⟨?_, ?_, ?_, ?_, ?_, ?_, ?_, ?_, ?_, ?_, ?_, ?_, ?_⟩ <;> first | (with_reducible assumption) | ((repeat' (first | (with_reducible assumption) | (with_reducible exact Blk.alloc_new _ _ _ (by first | rfl | (simp; done) | omega)) | (with_reducible apply Blk.drewN) | (with_reducible apply Blk.drew) | (with_reducible apply Blk.alloc_old) | (with_reducible apply Blk.set_same) | (with_reducible apply Blk.set_other) | (show (_ : Nat) ≠ _; first | omega | (simp; done) | (simp; omega)) | ((simp only [List.setIfInBounds_toArray, List.set_cons_succ, List.set_cons_zero]); (with_reducible exact rfl)) | (with_reducible exact rfl) | (show (_ : Array Value) = _; exact rfl))); done) | ((repeat' (first | (with_reducible exact Below.refl _ _) | (with_reducible assumption) | (with_reducible refine below_drewN ?_ _) | (with_reducible refine Below.drew ?_) | (with_reducible refine Below.alloc ?_ ?_ _) | (with_reducible refine Below.setCell ?_ ?_ _) | go_size)); done) | omega | (go_simp; done) | (simp; done) | (exact Blk.cell (by (repeat' (first | (with_reducible assumption) | (with_reducible exact Blk.alloc_new _ _ _ (by first | rfl | (simp; done) | omega)) | (with_reducible apply Blk.drewN) | (with_reducible apply Blk.drew) | (with_reducible apply Blk.alloc_old) | (with_reducible apply Blk.set_same) | (with_reducible apply Blk.set_other) | (show (_ : Nat) ≠ _; first | omega | (simp; done) | (simp; omega)) | ((simp only [List.setIfInBounds_toArray, List.set_cons_succ, List.set_cons_zero]); (with_reducible exact rfl)) | (with_reducible exact rfl) | (show (_ : Array Value) = _; exact rfl)))))))
        (first
          | (go_at_call 24; (with_reducible refine (wOf 1 _ (by omega) (by omega)).mono ?_); rintro e w' ⟨rfl, hb'⟩; have hbx : Below w.heap.size w w' := (by refine Below.trans ?_ (Below.mono hb' ?_) <;> (repeat' (first | (with_reducible exact Below.refl _ _) | (with_reducible assumption) | (with_reducible refine below_drewN ?_ _) | (with_reducible refine Below.drew ?_) | (with_reducible refine Below.alloc ?_ ?_ _) | (with_reducible refine Below.setCell ?_ ?_ _) | go_size))); have hbs := hb'.size; (try simp at hbs); (try (first | have hX := Blk.below (Blk.alloc_new _ _ _ rfl) hb' (by first | (simp; done) | omega | (simp; omega)) | have hX := Blk.below (Blk.drew (Blk.alloc_new _ _ _ rfl)) hb' (by first | (simp; done) | omega | (simp; omega)) | have hX := Blk.below hX hb' (by first | (simp; done) | omega | (simp; omega)) | have hX := Blk.below hX.drew hb' (by first | (simp; done) | omega | (simp; omega)))); (try simp only [World.size_alloc] at hX); (try (have cX := hX.cell; have fX := hX.frozen; have zX := hX.size)); have hkC : Blk w' (w.heap.size) #[.int .u64 m, .int .u64 d, .int .u64 n] 24 := Blk.below (by (repeat' (first | (with_reducible assumption) | (with_reducible exact Blk.alloc_new _ _ _ (by first | rfl | (simp; done) | omega)) | (with_reducible apply Blk.drewN) | (with_reducible apply Blk.drew) | (with_reducible apply Blk.alloc_old) | (with_reducible apply Blk.set_same) | (with_reducible apply Blk.set_other) | (show (_ : Nat) ≠ _; first | omega | (simp; done) | (simp; omega)) | ((simp only [List.setIfInBounds_toArray, List.set_cons_succ, List.set_cons_zero]); (with_reducible exact rfl)) | (with_reducible exact rfl) | (show (_ : Array Value) = _; exact rfl)))) hb' (by first | (simp; done) | omega | (simp; omega)); have hqC := hkC.cell; have hzC := hkC.size; have hkF : Blk w' (w.heap.size + 1) #[.int .u64 x, .int .u64 (hi (y)), .int .u64 (lo (y))] 28 := Blk.below (by (repeat' (first | (with_reducible assumption) | (with_reducible exact Blk.alloc_new _ _ _ (by first | rfl | (simp; done) | omega)) | (with_reducible apply Blk.drewN) | (with_reducible apply Blk.drew) | (with_reducible apply Blk.alloc_old) | (with_reducible apply Blk.set_same) | (with_reducible apply Blk.set_other) | (show (_ : Nat) ≠ _; first | omega | (simp; done) | (simp; omega)) | ((simp only [List.setIfInBounds_toArray, List.set_cons_succ, List.set_cons_zero]); (with_reducible exact rfl)) | (with_reducible exact rfl) | (show (_ : Array Value) = _; exact rfl)))) hb' (by first | (simp; done) | omega | (simp; omega)); have hqF := hkF.cell; have hzF := hkF.size; have hkZ : Blk w' (w3.heap.size) #[.int .u64 r.f.X, .int .u64 (hi (r.f.Y)), .int .u64 (lo (r.f.Y)), .int .u64 r.f.M, .int .u64 r.t.X, .int .u64 (hi (r.t.Y)), .int .u64 (lo (r.t.Y)), .int .u64 r.t.M, .bool r.b] 40 := Blk.below (by (repeat' (first | (with_reducible assumption) | (with_reducible exact Blk.alloc_new _ _ _ (by first | rfl | (simp; done) | omega)) | (with_reducible apply Blk.drewN) | (with_reducible apply Blk.drew) | (with_reducible apply Blk.alloc_old) | (with_reducible apply Blk.set_same) | (with_reducible apply Blk.set_other) | (show (_ : Nat) ≠ _; first | omega | (simp; done) | (simp; omega)) | ((simp only [List.setIfInBounds_toArray, List.set_cons_succ, List.set_cons_zero]); (with_reducible exact rfl)) | (with_reducible exact rfl) | (show (_ : Array Value) = _; exact rfl)))) hb' (by first | (simp; done) | omega | (simp; omega)); have hqZ := hkZ.cell; have hzZ := hkZ.size; have hkX : Blk w' (PX) #[.int .u64 (hi (u)), .int .u64 (lo (u))] 26 := Blk.below (by (repeat' (first | (with_reducible assumption) | (with_reducible exact Blk.alloc_new _ _ _ (by first | rfl | (simp; done) | omega)) | (with_reducible apply Blk.drewN) | (with_reducible apply Blk.drew) | (with_reducible apply Blk.alloc_old) | (with_reducible apply Blk.set_same) | (with_reducible apply Blk.set_other) | (show (_ : Nat) ≠ _; first | omega | (simp; done) | (simp; omega)) | ((simp only [List.setIfInBounds_toArray, List.set_cons_succ, List.set_cons_zero]); (with_reducible exact rfl)) | (with_reducible exact rfl) | (show (_ : Array Value) = _; exact rfl)))) hb' (by first | (simp; done) | omega | (simp; omega)); have hqX := hkX.cell; have hzX := hkX.size; clear hb')
          | (go_at_call 20; (with_reducible refine (wAdd1 u W _ u1 HhW.out W1).mono ?_); rintro e w' ⟨rfl, hb'⟩; have hbx : Below w.heap.size w w' := (by refine Below.trans ?_ (Below.mono hb' ?_) <;> (repeat' (first | (with_reducible exact Below.refl _ _) | (with_reducible assumption) | (with_reducible refine below_drewN ?_ _) | (with_reducible refine Below.drew ?_) | (with_reducible refine Below.alloc ?_ ?_ _) | (with_reducible refine Below.setCell ?_ ?_ _) | go_size))); have hbs := hb'.size; (try simp at hbs); (try (first | have hX := Blk.below (Blk.alloc_new _ _ _ rfl) hb' (by first | (simp; done) | omega | (simp; omega)) | have hX := Blk.below (Blk.drew (Blk.alloc_new _ _ _ rfl)) hb' (by first | (simp; done) | omega | (simp; omega)) | have hX := Blk.below hX hb' (by first | (simp; done) | omega | (simp; omega)) | have hX := Blk.below hX.drew hb' (by first | (simp; done) | omega | (simp; omega)))); (try simp only [World.size_alloc] at hX); (try (have cX := hX.cell; have fX := hX.frozen; have zX := hX.size)); have hkC : Blk w' (w.heap.size) #[.int .u64 m, .int .u64 d, .int .u64 n] 24 := Blk.below (by (repeat' (first | (with_reducible assumption) | (with_reducible exact Blk.alloc_new _ _ _ (by first | rfl | (simp; done) | omega)) | (with_reducible apply Blk.drewN) | (with_reducible apply Blk.drew) | (with_reducible apply Blk.alloc_old) | (with_reducible apply Blk.set_same) | (with_reducible apply Blk.set_other) | (show (_ : Nat) ≠ _; first | omega | (simp; done) | (simp; omega)) | ((simp only [List.setIfInBounds_toArray, List.set_cons_succ, List.set_cons_zero]); (with_reducible exact rfl)) | (with_reducible exact rfl) | (show (_ : Array Value) = _; exact rfl)))) hb' (by first | (simp; done) | omega | (simp; omega)); have hqC := hkC.cell; have hzC := hkC.size; have hkF : Blk w' (w.heap.size + 1) #[.int .u64 x, .int .u64 (hi (y)), .int .u64 (lo (y))] 28 := Blk.below (by (repeat' (first | (with_reducible assumption) | (with_reducible exact Blk.alloc_new _ _ _ (by first | rfl | (simp; done) | omega)) | (with_reducible apply Blk.drewN) | (with_reducible apply Blk.drew) | (with_reducible apply Blk.alloc_old) | (with_reducible apply Blk.set_same) | (with_reducible apply Blk.set_other) | (show (_ : Nat) ≠ _; first | omega | (simp; done) | (simp; omega)) | ((simp only [List.setIfInBounds_toArray, List.set_cons_succ, List.set_cons_zero]); (with_reducible exact rfl)) | (with_reducible exact rfl) | (show (_ : Array Value) = _; exact rfl)))) hb' (by first | (simp; done) | omega | (simp; omega)); have hqF := hkF.cell; have hzF := hkF.size; have hkZ : Blk w' (w3.heap.size) #[.int .u64 r.f.X, .int .u64 (hi (r.f.Y)), .int .u64 (lo (r.f.Y)), .int .u64 r.f.M, .int .u64 r.t.X, .int .u64 (hi (r.t.Y)), .int .u64 (lo (r.t.Y)), .int .u64 r.t.M, .bool r.b] 40 := Blk.below (by (repeat' (first | (with_reducible assumption) | (with_reducible exact Blk.alloc_new _ _ _ (by first | rfl | (simp; done) | omega)) | (with_reducible apply Blk.drewN) | (with_reducible apply Blk.drew) | (with_reducible apply Blk.alloc_old) | (with_reducible apply Blk.set_same) | (with_reducible apply Blk.set_other) | (show (_ : Nat) ≠ _; first | omega | (simp; done) | (simp; omega)) | ((simp only [List.setIfInBounds_toArray, List.set_cons_succ, List.set_cons_zero]); (with_reducible exact rfl)) | (with_reducible exact rfl) | (show (_ : Array Value) = _; exact rfl)))) hb' (by first | (simp; done) | omega | (simp; omega)); have hqZ := hkZ.cell; have hzZ := hkZ.size; have hkX : Blk w' (PX) #[.int .u64 (hi (u)), .int .u64 (lo (u))] 26 := Blk.below (by (repeat' (first | (with_reducible assumption) | (with_reducible exact Blk.alloc_new _ _ _ (by first | rfl | (simp; done) | omega)) | (with_reducible apply Blk.drewN) | (with_reducible apply Blk.drew) | (with_reducible apply Blk.alloc_old) | (with_reducible apply Blk.set_same) | (with_reducible apply Blk.set_other) | (show (_ : Nat) ≠ _; first | omega | (simp; done) | (simp; omega)) | ((simp only [List.setIfInBounds_toArray, List.set_cons_succ, List.set_cons_zero]); (with_reducible exact rfl)) | (with_reducible exact rfl) | (show (_ : Array Value) = _; exact rfl)))) hb' (by first | (simp; done) | omega | (simp; omega)); have hqX := hkX.cell; have hzX := hkX.size; clear hb'))
      all_goals
        go_wp2_with fail
        go_meet
        exact ⟨_, rfl, rfl, by (repeat' (first | (with_reducible exact Below.refl _ _) | (with_reducible assumption) | (with_reducible refine below_drewN ?_ _) | (with_reducible refine Below.drew ?_) | (with_reducible refine Below.alloc ?_ ?_ _) | (with_reducible refine Below.setCell ?_ ?_ _) | go_size)), by (repeat' (first | (with_reducible assumption) | (with_reducible exact Blk.alloc_new _ _ _ (by first | rfl | (simp; done) | omega)) | (with_reducible apply Blk.drewN) | (with_reducible apply Blk.drew) | (with_reducible apply Blk.alloc_old) | (with_reducible apply Blk.set_same) | (with_reducible apply Blk.set_other) | (show (_ : Nat) ≠ _; first | omega | (simp; done) | (simp; omega)) | ((simp only [List.setIfInBounds_toArray, List.set_cons_succ, List.set_cons_zero]); (with_reducible exact rfl)) | (with_reducible exact rfl) | (show (_ : Array Value) = _; exact rfl))), by (repeat' (first | (with_reducible assumption) | (with_reducible exact Blk.alloc_new _ _ _ (by first | rfl | (simp; done) | omega)) | (with_reducible apply Blk.drewN) | (with_reducible apply Blk.drew) | (with_reducible apply Blk.alloc_old) | (with_reducible apply Blk.set_same) | (with_reducible apply Blk.set_other) | (show (_ : Nat) ≠ _; first | omega | (simp; done) | (simp; omega)) | ((simp only [List.setIfInBounds_toArray, List.set_cons_succ, List.set_cons_zero]); (with_reducible exact rfl)) | (with_reducible exact rfl) | (show (_ : Array Value) = _; exact rfl))), by (repeat' (first | (with_reducible assumption) | (with_reducible exact Blk.alloc_new _ _ _ (by first | rfl | (simp; done) | omega)) | (with_reducible apply Blk.drewN) | (with_reducible apply Blk.drew) | (with_reducible apply Blk.alloc_old) | (with_reducible apply Blk.set_same) | (with_reducible apply Blk.set_other) | (show (_ : Nat) ≠ _; first | omega | (simp; done) | (simp; omega)) | ((simp only [List.setIfInBounds_toArray, List.set_cons_succ, List.set_cons_zero]); (with_reducible exact rfl)) | (with_reducible exact rfl) | (show (_ : Array Value) = _; exact rfl))), by (repeat' (first | (with_reducible assumption) | (with_reducible exact Blk.alloc_new _ _ _ (by first | rfl | (simp; done) | omega)) | (with_reducible apply Blk.drewN) | (with_reducible apply Blk.drew) | (with_reducible apply Blk.alloc_old) | (with_reducible apply Blk.set_same) | (with_reducible apply Blk.set_other) | (show (_ : Nat) ≠ _; first | omega | (simp; done) | (simp; omega)) | ((simp only [List.setIfInBounds_toArray, List.set_cons_succ, List.set_cons_zero]); (with_reducible exact rfl)) | (with_reducible exact rfl) | (show (_ : Array Value) = _; exact rfl))), by (repeat' (first | (with_reducible assumption) | (with_reducible exact Blk.alloc_new _ _ _ (by first | rfl | (simp; done) | omega)) | (with_reducible apply Blk.drewN) | (with_reducible apply Blk.drew) | (with_reducible apply Blk.alloc_old) | (with_reducible apply Blk.set_same) | (with_reducible apply Blk.set_other) | (show (_ : Nat) ≠ _; first | omega | (simp; done) | (simp; omega)) | ((simp only [List.setIfInBounds_toArray, List.set_cons_succ, List.set_cons_zero]); (with_reducible exact rfl)) | (with_reducible exact rfl) | (show (_ : Array Value) = _; exact rfl)))⟩
    case rest =>
      obtain ⟨PY, rfl, rfl, g7, C7, F7, Z7, X7, Y7⟩ := hcut
      have hz7 := g7.size
      have cC := C7.cell; have fC := C7.frozen; have zC := C7.size
      have cF := F7.cell; have fF := F7.frozen; have zF := F7.size
      have cZ := Z7.cell; have fZ := Z7.frozen; have zZ := Z7.size
      have cX := X7.cell; have fX := X7.frozen; have zX := X7.size
      have cY := Y7.cell; have fY := Y7.frozen; have zY := Y7.size
      go_wp2_with fail
      refine (runreach r W g _ or W1 Hhg.out).mono ?_
      rintro e w8 ⟨rfl, hb8⟩
      have C8 : Blk w8 (w.heap.size) #[.int .u64 m, .int .u64 d, .int .u64 n] 24 := Blk.below (by (repeat' (first | (with_reducible assumption) | (with_reducible exact Blk.alloc_new _ _ _ (by first | rfl | (simp; done) | omega)) | (with_reducible apply Blk.drewN) | (with_reducible apply Blk.drew) | (with_reducible apply Blk.alloc_old) | (with_reducible apply Blk.set_same) | (with_reducible apply Blk.set_other) | (show (_ : Nat) ≠ _; first | omega | (simp; done) | (simp; omega)) | ((simp only [List.setIfInBounds_toArray, List.set_cons_succ, List.set_cons_zero]); (with_reducible exact rfl)) | (with_reducible exact rfl) | (show (_ : Array Value) = _; exact rfl)))) hb8 (by first | (simp; done) | omega | (simp; omega))
      have F8 : Blk w8 (w.heap.size + 1) #[.int .u64 x, .int .u64 (hi (y)), .int .u64 (lo (y))] 28 := Blk.below (by (repeat' (first | (with_reducible assumption) | (with_reducible exact Blk.alloc_new _ _ _ (by first | rfl | (simp; done) | omega)) | (with_reducible apply Blk.drewN) | (with_reducible apply Blk.drew) | (with_reducible apply Blk.alloc_old) | (with_reducible apply Blk.set_same) | (with_reducible apply Blk.set_other) | (show (_ : Nat) ≠ _; first | omega | (simp; done) | (simp; omega)) | ((simp only [List.setIfInBounds_toArray, List.set_cons_succ, List.set_cons_zero]); (with_reducible exact rfl)) | (with_reducible exact rfl) | (show (_ : Array Value) = _; exact rfl)))) hb8 (by first | (simp; done) | omega | (simp; omega))
      have Z8 : Blk w8 (w3.heap.size) #[.int .u64 r.f.X, .int .u64 (hi (r.f.Y)), .int .u64 (lo (r.f.Y)), .int .u64 r.f.M, .int .u64 r.t.X, .int .u64 (hi (r.t.Y)), .int .u64 (lo (r.t.Y)), .int .u64 r.t.M, .bool r.b] 40 := Blk.below (by (repeat' (first | (with_reducible assumption) | (with_reducible exact Blk.alloc_new _ _ _ (by first | rfl | (simp; done) | omega)) | (with_reducible apply Blk.drewN) | (with_reducible apply Blk.drew) | (with_reducible apply Blk.alloc_old) | (with_reducible apply Blk.set_same) | (with_reducible apply Blk.set_other) | (show (_ : Nat) ≠ _; first | omega | (simp; done) | (simp; omega)) | ((simp only [List.setIfInBounds_toArray, List.set_cons_succ, List.set_cons_zero]); (with_reducible exact rfl)) | (with_reducible exact rfl) | (show (_ : Array Value) = _; exact rfl)))) hb8 (by first | (simp; done) | omega | (simp; omega))
      have Y8 : Blk w8 (PY) #[.int .u64 (hi (W)), .int .u64 (lo (W))] 26 := Blk.below (by (repeat' (first | (with_reducible assumption) | (with_reducible exact Blk.alloc_new _ _ _ (by first | rfl | (simp; done) | omega)) | (with_reducible apply Blk.drewN) | (with_reducible apply Blk.drew) | (with_reducible apply Blk.alloc_old) | (with_reducible apply Blk.set_same) | (with_reducible apply Blk.set_other) | (show (_ : Nat) ≠ _; first | omega | (simp; done) | (simp; omega)) | ((simp only [List.setIfInBounds_toArray, List.set_cons_succ, List.set_cons_zero]); (with_reducible exact rfl)) | (with_reducible exact rfl) | (show (_ : Array Value) = _; exact rfl)))) hb8 (by first | (simp; done) | omega | (simp; omega))
      have g8 : Below w.heap.size w w8 := by refine Below.trans ?_ (hb8.mono ?_) <;> (repeat' (first | (with_reducible exact Below.refl _ _) | (with_reducible assumption) | (with_reducible refine below_drewN ?_ _) | (with_reducible refine Below.drew ?_) | (with_reducible refine Below.alloc ?_ ?_ _) | (with_reducible refine Below.setCell ?_ ?_ _) | go_size))
      have hz8 := hb8.size
      (try simp at hz8)
      clear hb8
      replace cC := C8.cell
      replace fC := C8.frozen
      replace zC := C8.size
      replace cF := F8.cell
      replace fF := F8.frozen
      replace zF := F8.size
      replace cZ := Z8.cell
      replace fZ := Z8.frozen
      replace zZ := Z8.size
      replace cY := Y8.cell
      replace fY := Y8.frozen
      replace zY := Y8.size
      go_wp2_with fail
      refine (hundred06 _).mono ?_
      rintro e w9 ⟨rfl, hb9⟩
      have g9 : Below w.heap.size w w9 := by refine Below.trans ?_ (hb9.mono ?_) <;> (repeat' (first | (with_reducible exact Below.refl _ _) | (with_reducible assumption) | (with_reducible refine below_drewN ?_ _) | (with_reducible refine Below.drew ?_) | (with_reducible refine Below.alloc ?_ ?_ _) | (with_reducible refine Below.setCell ?_ ?_ _) | go_size))
      have hz9 := hb9.size
      (try simp at hz9)
      clear hb9
      go_wp2
      go_ret
      exact ⟨rfl, by (repeat' (first | (with_reducible exact Below.refl _ _) | (with_reducible assumption) | (with_reducible refine below_drewN ?_ _) | (with_reducible refine Below.drew ?_) | (with_reducible refine Below.alloc ?_ ?_ _) | (with_reducible refine Below.setCell ?_ ?_ _) | go_size))⟩
set_option maxRecDepth 100000 in
set_option maxHeartbeats 4000000 in
theorem SV_e (m d n x y t s u v c1 W g p c2 q c3 : Int) (r rr : RN) (w : World) (hb : (decide (x < 4611686018427387904) && decide (hi y < 1073741824)) = true) (hm : 0 ≤ m ∧ m ≤ 18446744073709551615) (hd : 0 ≤ d ∧ d ≤ 18446744073709551615) (hn : 0 ≤ n ∧ n ≤ 18446744073709551615) (hk : (kd m d n != 0) = true) (hx : 0 ≤ x ∧ x < 4611686018427387904) (hy : In128 y) (ht : 0 ≤ t ∧ t < 4611686018427387904) (hr : RN.start m d n x y = r) (or : r.ok) (hrr : RN.ready m d n x y = rr) (orr : rr.ok)
    (hs : sk m d n t = s) (s1 : In128 s) (hu : y + s = u) (u1 : In128 u) (hru : r.at (x + t) = u) (hv : rr.at (x + t) = v) (v1 : In128 v) (hc1 : cmp v u = c1) (k1 : decide (c1 < 0) = false) (hW : u + 1 = W) (W1 : In128 W) (hg : r.reach W = g) (hg0 : 0 ≤ g ∧ g ≤ 9223372036854775808) (hn9 : (g == 9223372036854775808) = false) (hgt : x + t < g) (hp : r.at g = p) (p1 : In128 p) (hc2 : cmp p W = c2) (k2 : decide (0 ≤ c2) = true) (hq : r.at (g - 1) = q) (q1 : In128 q) (hc3 : cmp q W = c3) (k3 : decide (c3 < 0) = true) :
    Calls Try.prog 4 #[.agg #[.int .u64 m, .int .u64 d, .int .u64 n], .agg #[.int .u64 x, .int .u64 (hi y), .int .u64 (lo y)], .int .u64 t] w fun e w' => e = .returned (.bool true) ∧ Below w.heap.size w w' := by
  have Hhb := hide hb; have Hhk := hide hk; have Hhr := hide hr; have Hhrr := hide hrr; have Hhs := hide hs; have Hhu := hide hu; have Hhru := hide hru; have Hhv := hide hv; have Hhc1 := hide hc1; have HhW := hide hW; have Hhg := hide hg; have Hhp := hide hp; have Hhc2 := hide hc2; have Hhq := hide hq; have Hhc3 := hide hc3; clear hb hk hr hrr hs hu hru hv hc1 hW hg hp hc2 hq hc3
  have d1 : decide (4611686018427387904 ≤ t) = false := decide_eq_false (by omega)
  have hwr : IntKind.u64.wrap (x + t) = x + t := IntWalk.u64_in _ ⟨by omega, by omega⟩
  have hne := wneq u u false u1 u1 (by simp)
  have d2 : decide (x + t < g) = true := decide_eq_true hgt
  have hwg : IntKind.u64.wrap (g - 1) = g - 1 := IntWalk.u64_in _ ⟨by omega, by omega⟩
  go_enter Try.func4, Try.ntmps4
  go_wp2_with fail
  refine (small06 x y true _ Hhb.out).mono ?_
  rintro e w1 ⟨rfl, hb1⟩
  have C1 : Blk w1 (w.heap.size) #[.int .u64 m, .int .u64 d, .int .u64 n] 24 := Blk.below (by (repeat' (first | (with_reducible assumption) | (with_reducible exact Blk.alloc_new _ _ _ (by first | rfl | (simp; done) | omega)) | (with_reducible apply Blk.drewN) | (with_reducible apply Blk.drew) | (with_reducible apply Blk.alloc_old) | (with_reducible apply Blk.set_same) | (with_reducible apply Blk.set_other) | (show (_ : Nat) ≠ _; first | omega | (simp; done) | (simp; omega)) | ((simp only [List.setIfInBounds_toArray, List.set_cons_succ, List.set_cons_zero]); (with_reducible exact rfl)) | (with_reducible exact rfl) | (show (_ : Array Value) = _; exact rfl)))) hb1 (by first | (simp; done) | omega | (simp; omega))
  have F1 : Blk w1 (w.heap.size + 1) #[.int .u64 x, .int .u64 (hi (y)), .int .u64 (lo (y))] 28 := Blk.below (by (repeat' (first | (with_reducible assumption) | (with_reducible exact Blk.alloc_new _ _ _ (by first | rfl | (simp; done) | omega)) | (with_reducible apply Blk.drewN) | (with_reducible apply Blk.drew) | (with_reducible apply Blk.alloc_old) | (with_reducible apply Blk.set_same) | (with_reducible apply Blk.set_other) | (show (_ : Nat) ≠ _; first | omega | (simp; done) | (simp; omega)) | ((simp only [List.setIfInBounds_toArray, List.set_cons_succ, List.set_cons_zero]); (with_reducible exact rfl)) | (with_reducible exact rfl) | (show (_ : Array Value) = _; exact rfl)))) hb1 (by first | (simp; done) | omega | (simp; omega))
  have g1 : Below w.heap.size w w1 := by refine Below.trans ?_ (hb1.mono ?_) <;> (repeat' (first | (with_reducible exact Below.refl _ _) | (with_reducible assumption) | (with_reducible refine below_drewN ?_ _) | (with_reducible refine Below.drew ?_) | (with_reducible refine Below.alloc ?_ ?_ _) | (with_reducible refine Below.setCell ?_ ?_ _) | go_size))
  have hz1 := hb1.size
  (try simp at hz1)
  clear hb1
  replace cC := C1.cell
  replace fC := C1.frozen
  replace zC := C1.size
  replace cF := F1.cell
  replace fF := F1.frozen
  replace zF := F1.size
  go_wp2_with fail
  refine (crightC m d n _ ⟨hm.1, hd.1, hn.1⟩ true Hhk.out).mono ?_
  rintro e w2 ⟨rfl, hb2⟩
  have C2 : Blk w2 (w.heap.size) #[.int .u64 m, .int .u64 d, .int .u64 n] 24 := Blk.below (by (repeat' (first | (with_reducible assumption) | (with_reducible exact Blk.alloc_new _ _ _ (by first | rfl | (simp; done) | omega)) | (with_reducible apply Blk.drewN) | (with_reducible apply Blk.drew) | (with_reducible apply Blk.alloc_old) | (with_reducible apply Blk.set_same) | (with_reducible apply Blk.set_other) | (show (_ : Nat) ≠ _; first | omega | (simp; done) | (simp; omega)) | ((simp only [List.setIfInBounds_toArray, List.set_cons_succ, List.set_cons_zero]); (with_reducible exact rfl)) | (with_reducible exact rfl) | (show (_ : Array Value) = _; exact rfl)))) hb2 (by first | (simp; done) | omega | (simp; omega))
  have F2 : Blk w2 (w.heap.size + 1) #[.int .u64 x, .int .u64 (hi (y)), .int .u64 (lo (y))] 28 := Blk.below (by (repeat' (first | (with_reducible assumption) | (with_reducible exact Blk.alloc_new _ _ _ (by first | rfl | (simp; done) | omega)) | (with_reducible apply Blk.drewN) | (with_reducible apply Blk.drew) | (with_reducible apply Blk.alloc_old) | (with_reducible apply Blk.set_same) | (with_reducible apply Blk.set_other) | (show (_ : Nat) ≠ _; first | omega | (simp; done) | (simp; omega)) | ((simp only [List.setIfInBounds_toArray, List.set_cons_succ, List.set_cons_zero]); (with_reducible exact rfl)) | (with_reducible exact rfl) | (show (_ : Array Value) = _; exact rfl)))) hb2 (by first | (simp; done) | omega | (simp; omega))
  have g2 : Below w.heap.size w w2 := by refine Below.trans ?_ (hb2.mono ?_) <;> (repeat' (first | (with_reducible exact Below.refl _ _) | (with_reducible assumption) | (with_reducible refine below_drewN ?_ _) | (with_reducible refine Below.drew ?_) | (with_reducible refine Below.alloc ?_ ?_ _) | (with_reducible refine Below.setCell ?_ ?_ _) | go_size))
  have hz2 := hb2.size
  (try simp at hz2)
  clear hb2
  replace cC := C2.cell
  replace fC := C2.frozen
  replace zC := C2.size
  replace cF := F2.cell
  replace fF := F2.frozen
  replace zF := F2.size
  go_wp2_with fail
  refine (start_any m d n x y r _ hm hd hn (by omega) hy Hhr.out).mono ?_
  rintro e w3 ⟨rfl, hb3⟩
  have C3 : Blk w3 (w.heap.size) #[.int .u64 m, .int .u64 d, .int .u64 n] 24 := Blk.below (by (repeat' (first | (with_reducible assumption) | (with_reducible exact Blk.alloc_new _ _ _ (by first | rfl | (simp; done) | omega)) | (with_reducible apply Blk.drewN) | (with_reducible apply Blk.drew) | (with_reducible apply Blk.alloc_old) | (with_reducible apply Blk.set_same) | (with_reducible apply Blk.set_other) | (show (_ : Nat) ≠ _; first | omega | (simp; done) | (simp; omega)) | ((simp only [List.setIfInBounds_toArray, List.set_cons_succ, List.set_cons_zero]); (with_reducible exact rfl)) | (with_reducible exact rfl) | (show (_ : Array Value) = _; exact rfl)))) hb3 (by first | (simp; done) | omega | (simp; omega))
  have F3 : Blk w3 (w.heap.size + 1) #[.int .u64 x, .int .u64 (hi (y)), .int .u64 (lo (y))] 28 := Blk.below (by (repeat' (first | (with_reducible assumption) | (with_reducible exact Blk.alloc_new _ _ _ (by first | rfl | (simp; done) | omega)) | (with_reducible apply Blk.drewN) | (with_reducible apply Blk.drew) | (with_reducible apply Blk.alloc_old) | (with_reducible apply Blk.set_same) | (with_reducible apply Blk.set_other) | (show (_ : Nat) ≠ _; first | omega | (simp; done) | (simp; omega)) | ((simp only [List.setIfInBounds_toArray, List.set_cons_succ, List.set_cons_zero]); (with_reducible exact rfl)) | (with_reducible exact rfl) | (show (_ : Array Value) = _; exact rfl)))) hb3 (by first | (simp; done) | omega | (simp; omega))
  have g3 : Below w.heap.size w w3 := by refine Below.trans ?_ (hb3.mono ?_) <;> (repeat' (first | (with_reducible exact Below.refl _ _) | (with_reducible assumption) | (with_reducible refine below_drewN ?_ _) | (with_reducible refine Below.drew ?_) | (with_reducible refine Below.alloc ?_ ?_ _) | (with_reducible refine Below.setCell ?_ ?_ _) | go_size))
  have hz3 := hb3.size
  (try simp at hz3)
  clear hb3
  replace cC := C3.cell
  replace fC := C3.frozen
  replace zC := C3.size
  replace cF := F3.cell
  replace fF := F3.frozen
  replace zF := F3.size
  go_upto_region 4 with (fail)
  refine wp_forget (fun v => Below w.heap.size w v ∧ Blk v (w.heap.size) #[.int .u64 m, .int .u64 d, .int .u64 n] 24 ∧ Blk v (w.heap.size + 1) #[.int .u64 x, .int .u64 (hi (y)), .int .u64 (lo (y))] 28 ∧ Blk v (w3.heap.size) #[.int .u64 r.f.X, .int .u64 (hi (r.f.Y)), .int .u64 (lo (r.f.Y)), .int .u64 r.f.M, .int .u64 r.t.X, .int .u64 (hi (r.t.Y)), .int .u64 (lo (r.t.Y)), .int .u64 r.t.M, .bool r.b] 40) ⟨by (repeat' (first | (with_reducible exact Below.refl _ _) | (with_reducible assumption) | (with_reducible refine below_drewN ?_ _) | (with_reducible refine Below.drew ?_) | (with_reducible refine Below.alloc ?_ ?_ _) | (with_reducible refine Below.setCell ?_ ?_ _) | go_size)), by (repeat' (first | (with_reducible assumption) | (with_reducible exact Blk.alloc_new _ _ _ (by first | rfl | (simp; done) | omega)) | (with_reducible apply Blk.drewN) | (with_reducible apply Blk.drew) | (with_reducible apply Blk.alloc_old) | (with_reducible apply Blk.set_same) | (with_reducible apply Blk.set_other) | (show (_ : Nat) ≠ _; first | omega | (simp; done) | (simp; omega)) | ((simp only [List.setIfInBounds_toArray, List.set_cons_succ, List.set_cons_zero]); (with_reducible exact rfl)) | (with_reducible exact rfl) | (show (_ : Array Value) = _; exact rfl))), by (repeat' (first | (with_reducible assumption) | (with_reducible exact Blk.alloc_new _ _ _ (by first | rfl | (simp; done) | omega)) | (with_reducible apply Blk.drewN) | (with_reducible apply Blk.drew) | (with_reducible apply Blk.alloc_old) | (with_reducible apply Blk.set_same) | (with_reducible apply Blk.set_other) | (show (_ : Nat) ≠ _; first | omega | (simp; done) | (simp; omega)) | ((simp only [List.setIfInBounds_toArray, List.set_cons_succ, List.set_cons_zero]); (with_reducible exact rfl)) | (with_reducible exact rfl) | (show (_ : Array Value) = _; exact rfl))), by (repeat' (first | (with_reducible assumption) | (with_reducible exact Blk.alloc_new _ _ _ (by first | rfl | (simp; done) | omega)) | (with_reducible apply Blk.drewN) | (with_reducible apply Blk.drew) | (with_reducible apply Blk.alloc_old) | (with_reducible apply Blk.set_same) | (with_reducible apply Blk.set_other) | (show (_ : Nat) ≠ _; first | omega | (simp; done) | (simp; omega)) | ((simp only [List.setIfInBounds_toArray, List.set_cons_succ, List.set_cons_zero]); (with_reducible exact rfl)) | (with_reducible exact rfl) | (show (_ : Array Value) = _; exact rfl)))⟩ ?_
  rintro w4 ⟨g4, C4, F4, Z4⟩
  have hz4 := g4.size
  replace cC := C4.cell
  replace fC := C4.frozen
  replace zC := C4.size
  replace cF := F4.cell
  replace fF := F4.frozen
  replace zF := F4.size
  have cZ := Z4.cell
  have fZ := Z4.frozen
  have zZ := Z4.size
  go_cut [8, 9] (fun p8 p9 wx => ∃ X, p8 = .pointer (some ⟨X, 0, none⟩) ∧ p9 = .bool false ∧ Below w.heap.size w wx ∧ Blk wx (w.heap.size) #[.int .u64 m, .int .u64 d, .int .u64 n] 24 ∧ Blk wx (w.heap.size + 1) #[.int .u64 x, .int .u64 (hi (y)), .int .u64 (lo (y))] 28 ∧ Blk wx (w3.heap.size) #[.int .u64 r.f.X, .int .u64 (hi (r.f.Y)), .int .u64 (lo (r.f.Y)), .int .u64 r.f.M, .int .u64 r.t.X, .int .u64 (hi (r.t.Y)), .int .u64 (lo (r.t.Y)), .int .u64 r.t.M, .bool r.b] 40 ∧ Blk wx X #[.int .u64 (hi (u)), .int .u64 (lo (u))] 26)
  case first =>
    go_region_held3 (fun v => (∀ i, v.cell? ⟨w.heap.size, i, none⟩ = #[.int .u64 m, .int .u64 d, .int .u64 n][i]?) ∧ w.heap.size < v.heap.size ∧ Blk v (w.heap.size) #[.int .u64 m, .int .u64 d, .int .u64 n] 24 ∧ (∀ i, v.cell? ⟨w.heap.size + 1, i, none⟩ = #[.int .u64 x, .int .u64 (hi (y)), .int .u64 (lo (y))][i]?) ∧ w.heap.size + 1 < v.heap.size ∧ Blk v (w.heap.size + 1) #[.int .u64 x, .int .u64 (hi (y)), .int .u64 (lo (y))] 28 ∧ (∀ i, v.cell? ⟨w3.heap.size, i, none⟩ = #[.int .u64 r.f.X, .int .u64 (hi (r.f.Y)), .int .u64 (lo (r.f.Y)), .int .u64 r.f.M, .int .u64 r.t.X, .int .u64 (hi (r.t.Y)), .int .u64 (lo (r.t.Y)), .int .u64 r.t.M, .bool r.b][i]?) ∧ w3.heap.size < v.heap.size ∧ Blk v (w3.heap.size) #[.int .u64 r.f.X, .int .u64 (hi (r.f.Y)), .int .u64 (lo (r.f.Y)), .int .u64 r.f.M, .int .u64 r.t.X, .int .u64 (hi (r.t.Y)), .int .u64 (lo (r.t.Y)), .int .u64 r.t.M, .bool r.b] 40 ∧ Below w.heap.size w v)
      (first
        | (refine ⟨?_, ?_, ?_, ?_, ?_, ?_, ?_, ?_, ?_, ?_⟩ <;> first | (with_reducible assumption) | ((repeat' (first | (with_reducible assumption) | (with_reducible exact Blk.alloc_new _ _ _ (by first | rfl | (simp; done) | omega)) | (with_reducible apply Blk.drewN) | (with_reducible apply Blk.drew) | (with_reducible apply Blk.alloc_old) | (with_reducible apply Blk.set_same) | (with_reducible apply Blk.set_other) | (show (_ : Nat) ≠ _; first | omega | (simp; done) | (simp; omega)) | ((simp only [List.setIfInBounds_toArray, List.set_cons_succ, List.set_cons_zero]); (with_reducible exact rfl)) | (with_reducible exact rfl) | (show (_ : Array Value) = _; exact rfl))); done) | ((repeat' (first | (with_reducible exact Below.refl _ _) | (with_reducible assumption) | (with_reducible refine below_drewN ?_ _) | (with_reducible refine Below.drew ?_) | (with_reducible refine Below.alloc ?_ ?_ _) | (with_reducible refine Below.setCell ?_ ?_ _) | go_size)); done) | omega | (go_simp; done) | (simp; done) | (exact Blk.cell (by (repeat' (first | (with_reducible assumption) | (with_reducible exact Blk.alloc_new _ _ _ (by first | rfl | (simp; done) | omega)) | (with_reducible apply Blk.drewN) | (with_reducible apply Blk.drew) | (with_reducible apply Blk.alloc_old) | (with_reducible apply Blk.set_same) | (with_reducible apply Blk.set_other) | (show (_ : Nat) ≠ _; first | omega | (simp; done) | (simp; omega)) | ((simp only [List.setIfInBounds_toArray, List.set_cons_succ, List.set_cons_zero]); (with_reducible exact rfl)) | (with_reducible exact rfl) | (show (_ : Array Value) = _; exact rfl)))))))
      (first
        | (go_at_call 21; (with_reducible refine (service_any m d n t s _ hm.1 hd.1 hn.1 (by omega) Hhs.out).mono ?_); rintro e w' ⟨rfl, hb'⟩; have hbx : Below w.heap.size w w' := (by refine Below.trans ?_ (Below.mono hb' ?_) <;> (repeat' (first | (with_reducible exact Below.refl _ _) | (with_reducible assumption) | (with_reducible refine below_drewN ?_ _) | (with_reducible refine Below.drew ?_) | (with_reducible refine Below.alloc ?_ ?_ _) | (with_reducible refine Below.setCell ?_ ?_ _) | go_size))); have hbs := hb'.size; (try simp at hbs); (try (first | have hX := Blk.below (Blk.alloc_new _ _ _ rfl) hb' (by first | (simp; done) | omega | (simp; omega)) | have hX := Blk.below (Blk.drew (Blk.alloc_new _ _ _ rfl)) hb' (by first | (simp; done) | omega | (simp; omega)) | have hX := Blk.below hX hb' (by first | (simp; done) | omega | (simp; omega)) | have hX := Blk.below hX.drew hb' (by first | (simp; done) | omega | (simp; omega)))); (try simp only [World.size_alloc] at hX); (try (have cX := hX.cell; have fX := hX.frozen; have zX := hX.size)); have hkC : Blk w' (w.heap.size) #[.int .u64 m, .int .u64 d, .int .u64 n] 24 := Blk.below (by (repeat' (first | (with_reducible assumption) | (with_reducible exact Blk.alloc_new _ _ _ (by first | rfl | (simp; done) | omega)) | (with_reducible apply Blk.drewN) | (with_reducible apply Blk.drew) | (with_reducible apply Blk.alloc_old) | (with_reducible apply Blk.set_same) | (with_reducible apply Blk.set_other) | (show (_ : Nat) ≠ _; first | omega | (simp; done) | (simp; omega)) | ((simp only [List.setIfInBounds_toArray, List.set_cons_succ, List.set_cons_zero]); (with_reducible exact rfl)) | (with_reducible exact rfl) | (show (_ : Array Value) = _; exact rfl)))) hb' (by first | (simp; done) | omega | (simp; omega)); have hqC := hkC.cell; have hzC := hkC.size; have hkF : Blk w' (w.heap.size + 1) #[.int .u64 x, .int .u64 (hi (y)), .int .u64 (lo (y))] 28 := Blk.below (by (repeat' (first | (with_reducible assumption) | (with_reducible exact Blk.alloc_new _ _ _ (by first | rfl | (simp; done) | omega)) | (with_reducible apply Blk.drewN) | (with_reducible apply Blk.drew) | (with_reducible apply Blk.alloc_old) | (with_reducible apply Blk.set_same) | (with_reducible apply Blk.set_other) | (show (_ : Nat) ≠ _; first | omega | (simp; done) | (simp; omega)) | ((simp only [List.setIfInBounds_toArray, List.set_cons_succ, List.set_cons_zero]); (with_reducible exact rfl)) | (with_reducible exact rfl) | (show (_ : Array Value) = _; exact rfl)))) hb' (by first | (simp; done) | omega | (simp; omega)); have hqF := hkF.cell; have hzF := hkF.size; have hkZ : Blk w' (w3.heap.size) #[.int .u64 r.f.X, .int .u64 (hi (r.f.Y)), .int .u64 (lo (r.f.Y)), .int .u64 r.f.M, .int .u64 r.t.X, .int .u64 (hi (r.t.Y)), .int .u64 (lo (r.t.Y)), .int .u64 r.t.M, .bool r.b] 40 := Blk.below (by (repeat' (first | (with_reducible assumption) | (with_reducible exact Blk.alloc_new _ _ _ (by first | rfl | (simp; done) | omega)) | (with_reducible apply Blk.drewN) | (with_reducible apply Blk.drew) | (with_reducible apply Blk.alloc_old) | (with_reducible apply Blk.set_same) | (with_reducible apply Blk.set_other) | (show (_ : Nat) ≠ _; first | omega | (simp; done) | (simp; omega)) | ((simp only [List.setIfInBounds_toArray, List.set_cons_succ, List.set_cons_zero]); (with_reducible exact rfl)) | (with_reducible exact rfl) | (show (_ : Array Value) = _; exact rfl)))) hb' (by first | (simp; done) | omega | (simp; omega)); have hqZ := hkZ.cell; have hzZ := hkZ.size; clear hb')
        | (go_at_call 20; (with_reducible refine (wAddD y s u _ hy s1 Hhu.out u1).mono ?_); rintro e w' ⟨rfl, hb'⟩; have hbx : Below w.heap.size w w' := (by refine Below.trans ?_ (Below.mono hb' ?_) <;> (repeat' (first | (with_reducible exact Below.refl _ _) | (with_reducible assumption) | (with_reducible refine below_drewN ?_ _) | (with_reducible refine Below.drew ?_) | (with_reducible refine Below.alloc ?_ ?_ _) | (with_reducible refine Below.setCell ?_ ?_ _) | go_size))); have hbs := hb'.size; (try simp at hbs); (try (first | have hX := Blk.below (Blk.alloc_new _ _ _ rfl) hb' (by first | (simp; done) | omega | (simp; omega)) | have hX := Blk.below (Blk.drew (Blk.alloc_new _ _ _ rfl)) hb' (by first | (simp; done) | omega | (simp; omega)) | have hX := Blk.below hX hb' (by first | (simp; done) | omega | (simp; omega)) | have hX := Blk.below hX.drew hb' (by first | (simp; done) | omega | (simp; omega)))); (try simp only [World.size_alloc] at hX); (try (have cX := hX.cell; have fX := hX.frozen; have zX := hX.size)); have hkC : Blk w' (w.heap.size) #[.int .u64 m, .int .u64 d, .int .u64 n] 24 := Blk.below (by (repeat' (first | (with_reducible assumption) | (with_reducible exact Blk.alloc_new _ _ _ (by first | rfl | (simp; done) | omega)) | (with_reducible apply Blk.drewN) | (with_reducible apply Blk.drew) | (with_reducible apply Blk.alloc_old) | (with_reducible apply Blk.set_same) | (with_reducible apply Blk.set_other) | (show (_ : Nat) ≠ _; first | omega | (simp; done) | (simp; omega)) | ((simp only [List.setIfInBounds_toArray, List.set_cons_succ, List.set_cons_zero]); (with_reducible exact rfl)) | (with_reducible exact rfl) | (show (_ : Array Value) = _; exact rfl)))) hb' (by first | (simp; done) | omega | (simp; omega)); have hqC := hkC.cell; have hzC := hkC.size; have hkF : Blk w' (w.heap.size + 1) #[.int .u64 x, .int .u64 (hi (y)), .int .u64 (lo (y))] 28 := Blk.below (by (repeat' (first | (with_reducible assumption) | (with_reducible exact Blk.alloc_new _ _ _ (by first | rfl | (simp; done) | omega)) | (with_reducible apply Blk.drewN) | (with_reducible apply Blk.drew) | (with_reducible apply Blk.alloc_old) | (with_reducible apply Blk.set_same) | (with_reducible apply Blk.set_other) | (show (_ : Nat) ≠ _; first | omega | (simp; done) | (simp; omega)) | ((simp only [List.setIfInBounds_toArray, List.set_cons_succ, List.set_cons_zero]); (with_reducible exact rfl)) | (with_reducible exact rfl) | (show (_ : Array Value) = _; exact rfl)))) hb' (by first | (simp; done) | omega | (simp; omega)); have hqF := hkF.cell; have hzF := hkF.size; have hkZ : Blk w' (w3.heap.size) #[.int .u64 r.f.X, .int .u64 (hi (r.f.Y)), .int .u64 (lo (r.f.Y)), .int .u64 r.f.M, .int .u64 r.t.X, .int .u64 (hi (r.t.Y)), .int .u64 (lo (r.t.Y)), .int .u64 r.t.M, .bool r.b] 40 := Blk.below (by (repeat' (first | (with_reducible assumption) | (with_reducible exact Blk.alloc_new _ _ _ (by first | rfl | (simp; done) | omega)) | (with_reducible apply Blk.drewN) | (with_reducible apply Blk.drew) | (with_reducible apply Blk.alloc_old) | (with_reducible apply Blk.set_same) | (with_reducible apply Blk.set_other) | (show (_ : Nat) ≠ _; first | omega | (simp; done) | (simp; omega)) | ((simp only [List.setIfInBounds_toArray, List.set_cons_succ, List.set_cons_zero]); (with_reducible exact rfl)) | (with_reducible exact rfl) | (show (_ : Array Value) = _; exact rfl)))) hb' (by first | (simp; done) | omega | (simp; omega)); have hqZ := hkZ.cell; have hzZ := hkZ.size; clear hb'))
    all_goals
      go_wp2_with fail
      go_meet
      exact ⟨_, rfl, rfl, by (repeat' (first | (with_reducible exact Below.refl _ _) | (with_reducible assumption) | (with_reducible refine below_drewN ?_ _) | (with_reducible refine Below.drew ?_) | (with_reducible refine Below.alloc ?_ ?_ _) | (with_reducible refine Below.setCell ?_ ?_ _) | go_size)), by (repeat' (first | (with_reducible assumption) | (with_reducible exact Blk.alloc_new _ _ _ (by first | rfl | (simp; done) | omega)) | (with_reducible apply Blk.drewN) | (with_reducible apply Blk.drew) | (with_reducible apply Blk.alloc_old) | (with_reducible apply Blk.set_same) | (with_reducible apply Blk.set_other) | (show (_ : Nat) ≠ _; first | omega | (simp; done) | (simp; omega)) | ((simp only [List.setIfInBounds_toArray, List.set_cons_succ, List.set_cons_zero]); (with_reducible exact rfl)) | (with_reducible exact rfl) | (show (_ : Array Value) = _; exact rfl))), by (repeat' (first | (with_reducible assumption) | (with_reducible exact Blk.alloc_new _ _ _ (by first | rfl | (simp; done) | omega)) | (with_reducible apply Blk.drewN) | (with_reducible apply Blk.drew) | (with_reducible apply Blk.alloc_old) | (with_reducible apply Blk.set_same) | (with_reducible apply Blk.set_other) | (show (_ : Nat) ≠ _; first | omega | (simp; done) | (simp; omega)) | ((simp only [List.setIfInBounds_toArray, List.set_cons_succ, List.set_cons_zero]); (with_reducible exact rfl)) | (with_reducible exact rfl) | (show (_ : Array Value) = _; exact rfl))), by (repeat' (first | (with_reducible assumption) | (with_reducible exact Blk.alloc_new _ _ _ (by first | rfl | (simp; done) | omega)) | (with_reducible apply Blk.drewN) | (with_reducible apply Blk.drew) | (with_reducible apply Blk.alloc_old) | (with_reducible apply Blk.set_same) | (with_reducible apply Blk.set_other) | (show (_ : Nat) ≠ _; first | omega | (simp; done) | (simp; omega)) | ((simp only [List.setIfInBounds_toArray, List.set_cons_succ, List.set_cons_zero]); (with_reducible exact rfl)) | (with_reducible exact rfl) | (show (_ : Array Value) = _; exact rfl))), by (repeat' (first | (with_reducible assumption) | (with_reducible exact Blk.alloc_new _ _ _ (by first | rfl | (simp; done) | omega)) | (with_reducible apply Blk.drewN) | (with_reducible apply Blk.drew) | (with_reducible apply Blk.alloc_old) | (with_reducible apply Blk.set_same) | (with_reducible apply Blk.set_other) | (show (_ : Nat) ≠ _; first | omega | (simp; done) | (simp; omega)) | ((simp only [List.setIfInBounds_toArray, List.set_cons_succ, List.set_cons_zero]); (with_reducible exact rfl)) | (with_reducible exact rfl) | (show (_ : Array Value) = _; exact rfl)))⟩
  case rest =>
    obtain ⟨PX, rfl, rfl, g5, C5, F5, Z5, X5⟩ := hcut
    have hz5 := g5.size
    have cC := C5.cell; have fC := C5.frozen; have zC := C5.size
    have cF := F5.cell; have fF := F5.frozen; have zF := F5.size
    have cZ := Z5.cell; have fZ := Z5.frozen; have zZ := Z5.size
    have cX := X5.cell; have fX := X5.frozen; have zX := X5.size
    go_wp2_with fail
    refine wp_forget (fun v => Below w.heap.size w v ∧ Blk v (w.heap.size) #[.int .u64 m, .int .u64 d, .int .u64 n] 24 ∧ Blk v (w.heap.size + 1) #[.int .u64 x, .int .u64 (hi (y)), .int .u64 (lo (y))] 28 ∧ Blk v (w3.heap.size) #[.int .u64 r.f.X, .int .u64 (hi (r.f.Y)), .int .u64 (lo (r.f.Y)), .int .u64 r.f.M, .int .u64 r.t.X, .int .u64 (hi (r.t.Y)), .int .u64 (lo (r.t.Y)), .int .u64 r.t.M, .bool r.b] 40 ∧ Blk v (PX) #[.int .u64 (hi (u)), .int .u64 (lo (u))] 26) ⟨by (repeat' (first | (with_reducible exact Below.refl _ _) | (with_reducible assumption) | (with_reducible refine below_drewN ?_ _) | (with_reducible refine Below.drew ?_) | (with_reducible refine Below.alloc ?_ ?_ _) | (with_reducible refine Below.setCell ?_ ?_ _) | go_size)), by (repeat' (first | (with_reducible assumption) | (with_reducible exact Blk.alloc_new _ _ _ (by first | rfl | (simp; done) | omega)) | (with_reducible apply Blk.drewN) | (with_reducible apply Blk.drew) | (with_reducible apply Blk.alloc_old) | (with_reducible apply Blk.set_same) | (with_reducible apply Blk.set_other) | (show (_ : Nat) ≠ _; first | omega | (simp; done) | (simp; omega)) | ((simp only [List.setIfInBounds_toArray, List.set_cons_succ, List.set_cons_zero]); (with_reducible exact rfl)) | (with_reducible exact rfl) | (show (_ : Array Value) = _; exact rfl))), by (repeat' (first | (with_reducible assumption) | (with_reducible exact Blk.alloc_new _ _ _ (by first | rfl | (simp; done) | omega)) | (with_reducible apply Blk.drewN) | (with_reducible apply Blk.drew) | (with_reducible apply Blk.alloc_old) | (with_reducible apply Blk.set_same) | (with_reducible apply Blk.set_other) | (show (_ : Nat) ≠ _; first | omega | (simp; done) | (simp; omega)) | ((simp only [List.setIfInBounds_toArray, List.set_cons_succ, List.set_cons_zero]); (with_reducible exact rfl)) | (with_reducible exact rfl) | (show (_ : Array Value) = _; exact rfl))), by (repeat' (first | (with_reducible assumption) | (with_reducible exact Blk.alloc_new _ _ _ (by first | rfl | (simp; done) | omega)) | (with_reducible apply Blk.drewN) | (with_reducible apply Blk.drew) | (with_reducible apply Blk.alloc_old) | (with_reducible apply Blk.set_same) | (with_reducible apply Blk.set_other) | (show (_ : Nat) ≠ _; first | omega | (simp; done) | (simp; omega)) | ((simp only [List.setIfInBounds_toArray, List.set_cons_succ, List.set_cons_zero]); (with_reducible exact rfl)) | (with_reducible exact rfl) | (show (_ : Array Value) = _; exact rfl))), by (repeat' (first | (with_reducible assumption) | (with_reducible exact Blk.alloc_new _ _ _ (by first | rfl | (simp; done) | omega)) | (with_reducible apply Blk.drewN) | (with_reducible apply Blk.drew) | (with_reducible apply Blk.alloc_old) | (with_reducible apply Blk.set_same) | (with_reducible apply Blk.set_other) | (show (_ : Nat) ≠ _; first | omega | (simp; done) | (simp; omega)) | ((simp only [List.setIfInBounds_toArray, List.set_cons_succ, List.set_cons_zero]); (with_reducible exact rfl)) | (with_reducible exact rfl) | (show (_ : Array Value) = _; exact rfl)))⟩ ?_
    rintro v6 ⟨gv6, Cv6, Fv6, Zv6, Xv6⟩
    have qC6 := blk_calm Cv6
    have qF6 := blk_calm Fv6
    have qZ6 := blk_calm Zv6
    have qX6 := blk_calm Xv6
    refine wp_region_quiet_below (by kernel_rfl) (by kernel_rfl) ?_
    repeat (go_big_quiet_step ((first
        | (go_at_call 22; (with_reducible exact Calls.regrown_of (runat r (x + t) u _ or (by omega) Hhru.out)))
        | (go_at_call 17; (with_reducible exact Calls.regrown_of (ready_any m d n x y rr _ hm hd hn hy Hhrr.out)))
        | (go_at_call 22; (with_reducible exact Calls.regrown_of (runat rr (x + t) v _ orr (by omega) Hhv.out)))
        | (go_at_call 23; (with_reducible exact Calls.regrown_of (wcmpC v u c1 _ v1 u1 Hhc1.out))))))
    refine wpQuiet_nil ?_
    intro _ hw'
    obtain ⟨pq, hw''⟩ := hw'
    subst hw''
    have hb6 := below_regrown v6 pq.d pq.os
    generalize Sort.grow (redrawn v6 pq.d) pq.os = w6 at *
    have C6 : Blk w6 (w.heap.size) #[.int .u64 m, .int .u64 d, .int .u64 n] 24 := Blk.below Cv6 hb6 Cv6.size
    have F6 : Blk w6 (w.heap.size + 1) #[.int .u64 x, .int .u64 (hi (y)), .int .u64 (lo (y))] 28 := Blk.below Fv6 hb6 Fv6.size
    have Z6 : Blk w6 (w3.heap.size) #[.int .u64 r.f.X, .int .u64 (hi (r.f.Y)), .int .u64 (lo (r.f.Y)), .int .u64 r.f.M, .int .u64 r.t.X, .int .u64 (hi (r.t.Y)), .int .u64 (lo (r.t.Y)), .int .u64 r.t.M, .bool r.b] 40 := Blk.below Zv6 hb6 Zv6.size
    have X6 : Blk w6 (PX) #[.int .u64 (hi (u)), .int .u64 (lo (u))] 26 := Blk.below Xv6 hb6 Xv6.size
    have g6 : Below w.heap.size w w6 := gv6.trans (hb6.mono gv6.size)
    have hz6 : w.heap.size ≤ w6.heap.size := g6.size
    clear hb6 gv6 Cv6 qC6 Fv6 qF6 Zv6 qZ6 Xv6 qX6
    replace cC := C6.cell
    replace fC := C6.frozen
    replace zC := C6.size
    replace cF := F6.cell
    replace fF := F6.frozen
    replace zF := F6.size
    replace cZ := Z6.cell
    replace fZ := Z6.frozen
    replace zZ := Z6.size
    replace cX := X6.cell
    replace fX := X6.frozen
    replace zX := X6.size
    go_upto_region 7 with (fail)
    go_cut [10, 11] (fun p10 p11 wx => ∃ X, p10 = .pointer (some ⟨X, 0, none⟩) ∧ p11 = .bool false ∧ Below w.heap.size w wx ∧ Blk wx (w.heap.size) #[.int .u64 m, .int .u64 d, .int .u64 n] 24 ∧ Blk wx (w.heap.size + 1) #[.int .u64 x, .int .u64 (hi (y)), .int .u64 (lo (y))] 28 ∧ Blk wx (w3.heap.size) #[.int .u64 r.f.X, .int .u64 (hi (r.f.Y)), .int .u64 (lo (r.f.Y)), .int .u64 r.f.M, .int .u64 r.t.X, .int .u64 (hi (r.t.Y)), .int .u64 (lo (r.t.Y)), .int .u64 r.t.M, .bool r.b] 40 ∧ Blk wx (PX) #[.int .u64 (hi (u)), .int .u64 (lo (u))] 26 ∧ Blk wx X #[.int .u64 (hi (W)), .int .u64 (lo (W))] 26)
    case first =>
      go_region_held3 (fun v => (∀ i, v.cell? ⟨w.heap.size, i, none⟩ = #[.int .u64 m, .int .u64 d, .int .u64 n][i]?) ∧ w.heap.size < v.heap.size ∧ Blk v (w.heap.size) #[.int .u64 m, .int .u64 d, .int .u64 n] 24 ∧ (∀ i, v.cell? ⟨w.heap.size + 1, i, none⟩ = #[.int .u64 x, .int .u64 (hi (y)), .int .u64 (lo (y))][i]?) ∧ w.heap.size + 1 < v.heap.size ∧ Blk v (w.heap.size + 1) #[.int .u64 x, .int .u64 (hi (y)), .int .u64 (lo (y))] 28 ∧ (∀ i, v.cell? ⟨w3.heap.size, i, none⟩ = #[.int .u64 r.f.X, .int .u64 (hi (r.f.Y)), .int .u64 (lo (r.f.Y)), .int .u64 r.f.M, .int .u64 r.t.X, .int .u64 (hi (r.t.Y)), .int .u64 (lo (r.t.Y)), .int .u64 r.t.M, .bool r.b][i]?) ∧ w3.heap.size < v.heap.size ∧ Blk v (w3.heap.size) #[.int .u64 r.f.X, .int .u64 (hi (r.f.Y)), .int .u64 (lo (r.f.Y)), .int .u64 r.f.M, .int .u64 r.t.X, .int .u64 (hi (r.t.Y)), .int .u64 (lo (r.t.Y)), .int .u64 r.t.M, .bool r.b] 40 ∧ (∀ i, v.cell? ⟨PX, i, none⟩ = #[.int .u64 (hi (u)), .int .u64 (lo (u))][i]?) ∧ PX < v.heap.size ∧ Blk v (PX) #[.int .u64 (hi (u)), .int .u64 (lo (u))] 26 ∧ Below w.heap.size w v)
        (first
          | (refine ⟨?_, ?_, ?_, ?_, ?_, ?_, ?_, ?_, ?_, ?_, ?_, ?_, ?_⟩ <;> first | (with_reducible assumption) | ((repeat' (first | (with_reducible assumption) | (with_reducible exact Blk.alloc_new _ _ _ (by first | rfl | (simp; done) | omega)) | (with_reducible apply Blk.drewN) | (with_reducible apply Blk.drew) | (with_reducible apply Blk.alloc_old) | (with_reducible apply Blk.set_same) | (with_reducible apply Blk.set_other) | (show (_ : Nat) ≠ _; first | omega | (simp; done) | (simp; omega)) | ((simp only [List.setIfInBounds_toArray, List.set_cons_succ, List.set_cons_zero]); (with_reducible exact rfl)) | (with_reducible exact rfl) | (show (_ : Array Value) = _; exact rfl))); done) | ((repeat' (first | (with_reducible exact Below.refl _ _) | (with_reducible assumption) | (with_reducible refine below_drewN ?_ _) | (with_reducible refine Below.drew ?_) | (with_reducible refine Below.alloc ?_ ?_ _) | (with_reducible refine Below.setCell ?_ ?_ _) | go_size)); done) | omega | (go_simp; done) | (simp; done) | (exact Blk.cell (by (repeat' (first | (with_reducible assumption) | (with_reducible exact Blk.alloc_new _ _ _ (by first | rfl | (simp; done) | omega)) | (with_reducible apply Blk.drewN) | (with_reducible apply Blk.drew) | (with_reducible apply Blk.alloc_old) | (with_reducible apply Blk.set_same) | (with_reducible apply Blk.set_other) | (show (_ : Nat) ≠ _; first | omega | (simp; done) | (simp; omega)) | ((simp only [List.setIfInBounds_toArray, List.set_cons_succ, List.set_cons_zero]); (with_reducible exact rfl)) | (with_reducible exact rfl) | (show (_ : Array Value) = _; exact rfl)))))))
        (first
          | (go_at_call 24; (with_reducible refine (wOf 1 _ (by omega) (by omega)).mono ?_); rintro e w' ⟨rfl, hb'⟩; have hbx : Below w.heap.size w w' := (by refine Below.trans ?_ (Below.mono hb' ?_) <;> (repeat' (first | (with_reducible exact Below.refl _ _) | (with_reducible assumption) | (with_reducible refine below_drewN ?_ _) | (with_reducible refine Below.drew ?_) | (with_reducible refine Below.alloc ?_ ?_ _) | (with_reducible refine Below.setCell ?_ ?_ _) | go_size))); have hbs := hb'.size; (try simp at hbs); (try (first | have hX := Blk.below (Blk.alloc_new _ _ _ rfl) hb' (by first | (simp; done) | omega | (simp; omega)) | have hX := Blk.below (Blk.drew (Blk.alloc_new _ _ _ rfl)) hb' (by first | (simp; done) | omega | (simp; omega)) | have hX := Blk.below hX hb' (by first | (simp; done) | omega | (simp; omega)) | have hX := Blk.below hX.drew hb' (by first | (simp; done) | omega | (simp; omega)))); (try simp only [World.size_alloc] at hX); (try (have cX := hX.cell; have fX := hX.frozen; have zX := hX.size)); have hkC : Blk w' (w.heap.size) #[.int .u64 m, .int .u64 d, .int .u64 n] 24 := Blk.below (by (repeat' (first | (with_reducible assumption) | (with_reducible exact Blk.alloc_new _ _ _ (by first | rfl | (simp; done) | omega)) | (with_reducible apply Blk.drewN) | (with_reducible apply Blk.drew) | (with_reducible apply Blk.alloc_old) | (with_reducible apply Blk.set_same) | (with_reducible apply Blk.set_other) | (show (_ : Nat) ≠ _; first | omega | (simp; done) | (simp; omega)) | ((simp only [List.setIfInBounds_toArray, List.set_cons_succ, List.set_cons_zero]); (with_reducible exact rfl)) | (with_reducible exact rfl) | (show (_ : Array Value) = _; exact rfl)))) hb' (by first | (simp; done) | omega | (simp; omega)); have hqC := hkC.cell; have hzC := hkC.size; have hkF : Blk w' (w.heap.size + 1) #[.int .u64 x, .int .u64 (hi (y)), .int .u64 (lo (y))] 28 := Blk.below (by (repeat' (first | (with_reducible assumption) | (with_reducible exact Blk.alloc_new _ _ _ (by first | rfl | (simp; done) | omega)) | (with_reducible apply Blk.drewN) | (with_reducible apply Blk.drew) | (with_reducible apply Blk.alloc_old) | (with_reducible apply Blk.set_same) | (with_reducible apply Blk.set_other) | (show (_ : Nat) ≠ _; first | omega | (simp; done) | (simp; omega)) | ((simp only [List.setIfInBounds_toArray, List.set_cons_succ, List.set_cons_zero]); (with_reducible exact rfl)) | (with_reducible exact rfl) | (show (_ : Array Value) = _; exact rfl)))) hb' (by first | (simp; done) | omega | (simp; omega)); have hqF := hkF.cell; have hzF := hkF.size; have hkZ : Blk w' (w3.heap.size) #[.int .u64 r.f.X, .int .u64 (hi (r.f.Y)), .int .u64 (lo (r.f.Y)), .int .u64 r.f.M, .int .u64 r.t.X, .int .u64 (hi (r.t.Y)), .int .u64 (lo (r.t.Y)), .int .u64 r.t.M, .bool r.b] 40 := Blk.below (by (repeat' (first | (with_reducible assumption) | (with_reducible exact Blk.alloc_new _ _ _ (by first | rfl | (simp; done) | omega)) | (with_reducible apply Blk.drewN) | (with_reducible apply Blk.drew) | (with_reducible apply Blk.alloc_old) | (with_reducible apply Blk.set_same) | (with_reducible apply Blk.set_other) | (show (_ : Nat) ≠ _; first | omega | (simp; done) | (simp; omega)) | ((simp only [List.setIfInBounds_toArray, List.set_cons_succ, List.set_cons_zero]); (with_reducible exact rfl)) | (with_reducible exact rfl) | (show (_ : Array Value) = _; exact rfl)))) hb' (by first | (simp; done) | omega | (simp; omega)); have hqZ := hkZ.cell; have hzZ := hkZ.size; have hkX : Blk w' (PX) #[.int .u64 (hi (u)), .int .u64 (lo (u))] 26 := Blk.below (by (repeat' (first | (with_reducible assumption) | (with_reducible exact Blk.alloc_new _ _ _ (by first | rfl | (simp; done) | omega)) | (with_reducible apply Blk.drewN) | (with_reducible apply Blk.drew) | (with_reducible apply Blk.alloc_old) | (with_reducible apply Blk.set_same) | (with_reducible apply Blk.set_other) | (show (_ : Nat) ≠ _; first | omega | (simp; done) | (simp; omega)) | ((simp only [List.setIfInBounds_toArray, List.set_cons_succ, List.set_cons_zero]); (with_reducible exact rfl)) | (with_reducible exact rfl) | (show (_ : Array Value) = _; exact rfl)))) hb' (by first | (simp; done) | omega | (simp; omega)); have hqX := hkX.cell; have hzX := hkX.size; clear hb')
          | (go_at_call 20; (with_reducible refine (wAdd1 u W _ u1 HhW.out W1).mono ?_); rintro e w' ⟨rfl, hb'⟩; have hbx : Below w.heap.size w w' := (by refine Below.trans ?_ (Below.mono hb' ?_) <;> (repeat' (first | (with_reducible exact Below.refl _ _) | (with_reducible assumption) | (with_reducible refine below_drewN ?_ _) | (with_reducible refine Below.drew ?_) | (with_reducible refine Below.alloc ?_ ?_ _) | (with_reducible refine Below.setCell ?_ ?_ _) | go_size))); have hbs := hb'.size; (try simp at hbs); (try (first | have hX := Blk.below (Blk.alloc_new _ _ _ rfl) hb' (by first | (simp; done) | omega | (simp; omega)) | have hX := Blk.below (Blk.drew (Blk.alloc_new _ _ _ rfl)) hb' (by first | (simp; done) | omega | (simp; omega)) | have hX := Blk.below hX hb' (by first | (simp; done) | omega | (simp; omega)) | have hX := Blk.below hX.drew hb' (by first | (simp; done) | omega | (simp; omega)))); (try simp only [World.size_alloc] at hX); (try (have cX := hX.cell; have fX := hX.frozen; have zX := hX.size)); have hkC : Blk w' (w.heap.size) #[.int .u64 m, .int .u64 d, .int .u64 n] 24 := Blk.below (by (repeat' (first | (with_reducible assumption) | (with_reducible exact Blk.alloc_new _ _ _ (by first | rfl | (simp; done) | omega)) | (with_reducible apply Blk.drewN) | (with_reducible apply Blk.drew) | (with_reducible apply Blk.alloc_old) | (with_reducible apply Blk.set_same) | (with_reducible apply Blk.set_other) | (show (_ : Nat) ≠ _; first | omega | (simp; done) | (simp; omega)) | ((simp only [List.setIfInBounds_toArray, List.set_cons_succ, List.set_cons_zero]); (with_reducible exact rfl)) | (with_reducible exact rfl) | (show (_ : Array Value) = _; exact rfl)))) hb' (by first | (simp; done) | omega | (simp; omega)); have hqC := hkC.cell; have hzC := hkC.size; have hkF : Blk w' (w.heap.size + 1) #[.int .u64 x, .int .u64 (hi (y)), .int .u64 (lo (y))] 28 := Blk.below (by (repeat' (first | (with_reducible assumption) | (with_reducible exact Blk.alloc_new _ _ _ (by first | rfl | (simp; done) | omega)) | (with_reducible apply Blk.drewN) | (with_reducible apply Blk.drew) | (with_reducible apply Blk.alloc_old) | (with_reducible apply Blk.set_same) | (with_reducible apply Blk.set_other) | (show (_ : Nat) ≠ _; first | omega | (simp; done) | (simp; omega)) | ((simp only [List.setIfInBounds_toArray, List.set_cons_succ, List.set_cons_zero]); (with_reducible exact rfl)) | (with_reducible exact rfl) | (show (_ : Array Value) = _; exact rfl)))) hb' (by first | (simp; done) | omega | (simp; omega)); have hqF := hkF.cell; have hzF := hkF.size; have hkZ : Blk w' (w3.heap.size) #[.int .u64 r.f.X, .int .u64 (hi (r.f.Y)), .int .u64 (lo (r.f.Y)), .int .u64 r.f.M, .int .u64 r.t.X, .int .u64 (hi (r.t.Y)), .int .u64 (lo (r.t.Y)), .int .u64 r.t.M, .bool r.b] 40 := Blk.below (by (repeat' (first | (with_reducible assumption) | (with_reducible exact Blk.alloc_new _ _ _ (by first | rfl | (simp; done) | omega)) | (with_reducible apply Blk.drewN) | (with_reducible apply Blk.drew) | (with_reducible apply Blk.alloc_old) | (with_reducible apply Blk.set_same) | (with_reducible apply Blk.set_other) | (show (_ : Nat) ≠ _; first | omega | (simp; done) | (simp; omega)) | ((simp only [List.setIfInBounds_toArray, List.set_cons_succ, List.set_cons_zero]); (with_reducible exact rfl)) | (with_reducible exact rfl) | (show (_ : Array Value) = _; exact rfl)))) hb' (by first | (simp; done) | omega | (simp; omega)); have hqZ := hkZ.cell; have hzZ := hkZ.size; have hkX : Blk w' (PX) #[.int .u64 (hi (u)), .int .u64 (lo (u))] 26 := Blk.below (by (repeat' (first | (with_reducible assumption) | (with_reducible exact Blk.alloc_new _ _ _ (by first | rfl | (simp; done) | omega)) | (with_reducible apply Blk.drewN) | (with_reducible apply Blk.drew) | (with_reducible apply Blk.alloc_old) | (with_reducible apply Blk.set_same) | (with_reducible apply Blk.set_other) | (show (_ : Nat) ≠ _; first | omega | (simp; done) | (simp; omega)) | ((simp only [List.setIfInBounds_toArray, List.set_cons_succ, List.set_cons_zero]); (with_reducible exact rfl)) | (with_reducible exact rfl) | (show (_ : Array Value) = _; exact rfl)))) hb' (by first | (simp; done) | omega | (simp; omega)); have hqX := hkX.cell; have hzX := hkX.size; clear hb'))
      all_goals
        go_wp2_with fail
        go_meet
        exact ⟨_, rfl, rfl, by (repeat' (first | (with_reducible exact Below.refl _ _) | (with_reducible assumption) | (with_reducible refine below_drewN ?_ _) | (with_reducible refine Below.drew ?_) | (with_reducible refine Below.alloc ?_ ?_ _) | (with_reducible refine Below.setCell ?_ ?_ _) | go_size)), by (repeat' (first | (with_reducible assumption) | (with_reducible exact Blk.alloc_new _ _ _ (by first | rfl | (simp; done) | omega)) | (with_reducible apply Blk.drewN) | (with_reducible apply Blk.drew) | (with_reducible apply Blk.alloc_old) | (with_reducible apply Blk.set_same) | (with_reducible apply Blk.set_other) | (show (_ : Nat) ≠ _; first | omega | (simp; done) | (simp; omega)) | ((simp only [List.setIfInBounds_toArray, List.set_cons_succ, List.set_cons_zero]); (with_reducible exact rfl)) | (with_reducible exact rfl) | (show (_ : Array Value) = _; exact rfl))), by (repeat' (first | (with_reducible assumption) | (with_reducible exact Blk.alloc_new _ _ _ (by first | rfl | (simp; done) | omega)) | (with_reducible apply Blk.drewN) | (with_reducible apply Blk.drew) | (with_reducible apply Blk.alloc_old) | (with_reducible apply Blk.set_same) | (with_reducible apply Blk.set_other) | (show (_ : Nat) ≠ _; first | omega | (simp; done) | (simp; omega)) | ((simp only [List.setIfInBounds_toArray, List.set_cons_succ, List.set_cons_zero]); (with_reducible exact rfl)) | (with_reducible exact rfl) | (show (_ : Array Value) = _; exact rfl))), by (repeat' (first | (with_reducible assumption) | (with_reducible exact Blk.alloc_new _ _ _ (by first | rfl | (simp; done) | omega)) | (with_reducible apply Blk.drewN) | (with_reducible apply Blk.drew) | (with_reducible apply Blk.alloc_old) | (with_reducible apply Blk.set_same) | (with_reducible apply Blk.set_other) | (show (_ : Nat) ≠ _; first | omega | (simp; done) | (simp; omega)) | ((simp only [List.setIfInBounds_toArray, List.set_cons_succ, List.set_cons_zero]); (with_reducible exact rfl)) | (with_reducible exact rfl) | (show (_ : Array Value) = _; exact rfl))), by (repeat' (first | (with_reducible assumption) | (with_reducible exact Blk.alloc_new _ _ _ (by first | rfl | (simp; done) | omega)) | (with_reducible apply Blk.drewN) | (with_reducible apply Blk.drew) | (with_reducible apply Blk.alloc_old) | (with_reducible apply Blk.set_same) | (with_reducible apply Blk.set_other) | (show (_ : Nat) ≠ _; first | omega | (simp; done) | (simp; omega)) | ((simp only [List.setIfInBounds_toArray, List.set_cons_succ, List.set_cons_zero]); (with_reducible exact rfl)) | (with_reducible exact rfl) | (show (_ : Array Value) = _; exact rfl))), by (repeat' (first | (with_reducible assumption) | (with_reducible exact Blk.alloc_new _ _ _ (by first | rfl | (simp; done) | omega)) | (with_reducible apply Blk.drewN) | (with_reducible apply Blk.drew) | (with_reducible apply Blk.alloc_old) | (with_reducible apply Blk.set_same) | (with_reducible apply Blk.set_other) | (show (_ : Nat) ≠ _; first | omega | (simp; done) | (simp; omega)) | ((simp only [List.setIfInBounds_toArray, List.set_cons_succ, List.set_cons_zero]); (with_reducible exact rfl)) | (with_reducible exact rfl) | (show (_ : Array Value) = _; exact rfl)))⟩
    case rest =>
      obtain ⟨PY, rfl, rfl, g7, C7, F7, Z7, X7, Y7⟩ := hcut
      have hz7 := g7.size
      have cC := C7.cell; have fC := C7.frozen; have zC := C7.size
      have cF := F7.cell; have fF := F7.frozen; have zF := F7.size
      have cZ := Z7.cell; have fZ := Z7.frozen; have zZ := Z7.size
      have cX := X7.cell; have fX := X7.frozen; have zX := X7.size
      have cY := Y7.cell; have fY := Y7.frozen; have zY := Y7.size
      go_wp2_with fail
      refine (runreach r W g _ or W1 Hhg.out).mono ?_
      rintro e w8 ⟨rfl, hb8⟩
      have C8 : Blk w8 (w.heap.size) #[.int .u64 m, .int .u64 d, .int .u64 n] 24 := Blk.below (by (repeat' (first | (with_reducible assumption) | (with_reducible exact Blk.alloc_new _ _ _ (by first | rfl | (simp; done) | omega)) | (with_reducible apply Blk.drewN) | (with_reducible apply Blk.drew) | (with_reducible apply Blk.alloc_old) | (with_reducible apply Blk.set_same) | (with_reducible apply Blk.set_other) | (show (_ : Nat) ≠ _; first | omega | (simp; done) | (simp; omega)) | ((simp only [List.setIfInBounds_toArray, List.set_cons_succ, List.set_cons_zero]); (with_reducible exact rfl)) | (with_reducible exact rfl) | (show (_ : Array Value) = _; exact rfl)))) hb8 (by first | (simp; done) | omega | (simp; omega))
      have F8 : Blk w8 (w.heap.size + 1) #[.int .u64 x, .int .u64 (hi (y)), .int .u64 (lo (y))] 28 := Blk.below (by (repeat' (first | (with_reducible assumption) | (with_reducible exact Blk.alloc_new _ _ _ (by first | rfl | (simp; done) | omega)) | (with_reducible apply Blk.drewN) | (with_reducible apply Blk.drew) | (with_reducible apply Blk.alloc_old) | (with_reducible apply Blk.set_same) | (with_reducible apply Blk.set_other) | (show (_ : Nat) ≠ _; first | omega | (simp; done) | (simp; omega)) | ((simp only [List.setIfInBounds_toArray, List.set_cons_succ, List.set_cons_zero]); (with_reducible exact rfl)) | (with_reducible exact rfl) | (show (_ : Array Value) = _; exact rfl)))) hb8 (by first | (simp; done) | omega | (simp; omega))
      have Z8 : Blk w8 (w3.heap.size) #[.int .u64 r.f.X, .int .u64 (hi (r.f.Y)), .int .u64 (lo (r.f.Y)), .int .u64 r.f.M, .int .u64 r.t.X, .int .u64 (hi (r.t.Y)), .int .u64 (lo (r.t.Y)), .int .u64 r.t.M, .bool r.b] 40 := Blk.below (by (repeat' (first | (with_reducible assumption) | (with_reducible exact Blk.alloc_new _ _ _ (by first | rfl | (simp; done) | omega)) | (with_reducible apply Blk.drewN) | (with_reducible apply Blk.drew) | (with_reducible apply Blk.alloc_old) | (with_reducible apply Blk.set_same) | (with_reducible apply Blk.set_other) | (show (_ : Nat) ≠ _; first | omega | (simp; done) | (simp; omega)) | ((simp only [List.setIfInBounds_toArray, List.set_cons_succ, List.set_cons_zero]); (with_reducible exact rfl)) | (with_reducible exact rfl) | (show (_ : Array Value) = _; exact rfl)))) hb8 (by first | (simp; done) | omega | (simp; omega))
      have Y8 : Blk w8 (PY) #[.int .u64 (hi (W)), .int .u64 (lo (W))] 26 := Blk.below (by (repeat' (first | (with_reducible assumption) | (with_reducible exact Blk.alloc_new _ _ _ (by first | rfl | (simp; done) | omega)) | (with_reducible apply Blk.drewN) | (with_reducible apply Blk.drew) | (with_reducible apply Blk.alloc_old) | (with_reducible apply Blk.set_same) | (with_reducible apply Blk.set_other) | (show (_ : Nat) ≠ _; first | omega | (simp; done) | (simp; omega)) | ((simp only [List.setIfInBounds_toArray, List.set_cons_succ, List.set_cons_zero]); (with_reducible exact rfl)) | (with_reducible exact rfl) | (show (_ : Array Value) = _; exact rfl)))) hb8 (by first | (simp; done) | omega | (simp; omega))
      have g8 : Below w.heap.size w w8 := by refine Below.trans ?_ (hb8.mono ?_) <;> (repeat' (first | (with_reducible exact Below.refl _ _) | (with_reducible assumption) | (with_reducible refine below_drewN ?_ _) | (with_reducible refine Below.drew ?_) | (with_reducible refine Below.alloc ?_ ?_ _) | (with_reducible refine Below.setCell ?_ ?_ _) | go_size))
      have hz8 := hb8.size
      (try simp at hz8)
      clear hb8
      replace cC := C8.cell
      replace fC := C8.frozen
      replace zC := C8.size
      replace cF := F8.cell
      replace fF := F8.frozen
      replace zF := F8.size
      replace cZ := Z8.cell
      replace fZ := Z8.frozen
      replace zZ := Z8.size
      replace cY := Y8.cell
      replace fY := Y8.frozen
      replace zY := Y8.size
      go_wp2_with fail
      refine wp_forget (fun v => Below w.heap.size w v ∧ Blk v (w.heap.size) #[.int .u64 m, .int .u64 d, .int .u64 n] 24 ∧ Blk v (w.heap.size + 1) #[.int .u64 x, .int .u64 (hi (y)), .int .u64 (lo (y))] 28 ∧ Blk v (w3.heap.size) #[.int .u64 r.f.X, .int .u64 (hi (r.f.Y)), .int .u64 (lo (r.f.Y)), .int .u64 r.f.M, .int .u64 r.t.X, .int .u64 (hi (r.t.Y)), .int .u64 (lo (r.t.Y)), .int .u64 r.t.M, .bool r.b] 40 ∧ Blk v (PY) #[.int .u64 (hi (W)), .int .u64 (lo (W))] 26) ⟨by (repeat' (first | (with_reducible exact Below.refl _ _) | (with_reducible assumption) | (with_reducible refine below_drewN ?_ _) | (with_reducible refine Below.drew ?_) | (with_reducible refine Below.alloc ?_ ?_ _) | (with_reducible refine Below.setCell ?_ ?_ _) | go_size)), by (repeat' (first | (with_reducible assumption) | (with_reducible exact Blk.alloc_new _ _ _ (by first | rfl | (simp; done) | omega)) | (with_reducible apply Blk.drewN) | (with_reducible apply Blk.drew) | (with_reducible apply Blk.alloc_old) | (with_reducible apply Blk.set_same) | (with_reducible apply Blk.set_other) | (show (_ : Nat) ≠ _; first | omega | (simp; done) | (simp; omega)) | ((simp only [List.setIfInBounds_toArray, List.set_cons_succ, List.set_cons_zero]); (with_reducible exact rfl)) | (with_reducible exact rfl) | (show (_ : Array Value) = _; exact rfl))), by (repeat' (first | (with_reducible assumption) | (with_reducible exact Blk.alloc_new _ _ _ (by first | rfl | (simp; done) | omega)) | (with_reducible apply Blk.drewN) | (with_reducible apply Blk.drew) | (with_reducible apply Blk.alloc_old) | (with_reducible apply Blk.set_same) | (with_reducible apply Blk.set_other) | (show (_ : Nat) ≠ _; first | omega | (simp; done) | (simp; omega)) | ((simp only [List.setIfInBounds_toArray, List.set_cons_succ, List.set_cons_zero]); (with_reducible exact rfl)) | (with_reducible exact rfl) | (show (_ : Array Value) = _; exact rfl))), by (repeat' (first | (with_reducible assumption) | (with_reducible exact Blk.alloc_new _ _ _ (by first | rfl | (simp; done) | omega)) | (with_reducible apply Blk.drewN) | (with_reducible apply Blk.drew) | (with_reducible apply Blk.alloc_old) | (with_reducible apply Blk.set_same) | (with_reducible apply Blk.set_other) | (show (_ : Nat) ≠ _; first | omega | (simp; done) | (simp; omega)) | ((simp only [List.setIfInBounds_toArray, List.set_cons_succ, List.set_cons_zero]); (with_reducible exact rfl)) | (with_reducible exact rfl) | (show (_ : Array Value) = _; exact rfl))), by (repeat' (first | (with_reducible assumption) | (with_reducible exact Blk.alloc_new _ _ _ (by first | rfl | (simp; done) | omega)) | (with_reducible apply Blk.drewN) | (with_reducible apply Blk.drew) | (with_reducible apply Blk.alloc_old) | (with_reducible apply Blk.set_same) | (with_reducible apply Blk.set_other) | (show (_ : Nat) ≠ _; first | omega | (simp; done) | (simp; omega)) | ((simp only [List.setIfInBounds_toArray, List.set_cons_succ, List.set_cons_zero]); (with_reducible exact rfl)) | (with_reducible exact rfl) | (show (_ : Array Value) = _; exact rfl)))⟩ ?_
      rintro v9 ⟨gv9, Cv9, Fv9, Zv9, Yv9⟩
      have qC9 := blk_calm Cv9
      have qF9 := blk_calm Fv9
      have qZ9 := blk_calm Zv9
      have qY9 := blk_calm Yv9
      refine wp_region_quiet_below (by kernel_rfl) (by kernel_rfl) ?_
      repeat (go_big_quiet_step ((first
          | (go_at_call 22; (with_reducible exact Calls.regrown_of (runat r g p _ or (by omega) Hhp.out)))
          | (go_at_call 22; (with_reducible exact Calls.regrown_of (runat r (g - 1) q _ or (by omega) Hhq.out)))
          | (go_at_call 23; (with_reducible exact Calls.regrown_of (wcmpC p W c2 _ p1 W1 Hhc2.out)))
          | (go_at_call 23; (with_reducible exact Calls.regrown_of (wcmpC q W c3 _ q1 W1 Hhc3.out)))
          | (go_at_call 12; (with_reducible exact Calls.regrown_of (hundred06 _))))))
      refine wpQuiet_nil ?_
      intro _ hw'
      obtain ⟨pq, hw''⟩ := hw'
      subst hw''
      have hb9 := below_regrown v9 pq.d pq.os
      generalize Sort.grow (redrawn v9 pq.d) pq.os = w9 at *
      have C9 : Blk w9 (w.heap.size) #[.int .u64 m, .int .u64 d, .int .u64 n] 24 := Blk.below Cv9 hb9 Cv9.size
      have F9 : Blk w9 (w.heap.size + 1) #[.int .u64 x, .int .u64 (hi (y)), .int .u64 (lo (y))] 28 := Blk.below Fv9 hb9 Fv9.size
      have Z9 : Blk w9 (w3.heap.size) #[.int .u64 r.f.X, .int .u64 (hi (r.f.Y)), .int .u64 (lo (r.f.Y)), .int .u64 r.f.M, .int .u64 r.t.X, .int .u64 (hi (r.t.Y)), .int .u64 (lo (r.t.Y)), .int .u64 r.t.M, .bool r.b] 40 := Blk.below Zv9 hb9 Zv9.size
      have Y9 : Blk w9 (PY) #[.int .u64 (hi (W)), .int .u64 (lo (W))] 26 := Blk.below Yv9 hb9 Yv9.size
      have g9 : Below w.heap.size w w9 := gv9.trans (hb9.mono gv9.size)
      have hz9 : w.heap.size ≤ w9.heap.size := g9.size
      clear hb9 gv9 Cv9 qC9 Fv9 qF9 Zv9 qZ9 Yv9 qY9
      replace cC := C9.cell
      replace fC := C9.frozen
      replace zC := C9.size
      replace cF := F9.cell
      replace fF := F9.frozen
      replace zF := F9.size
      replace cZ := Z9.cell
      replace fZ := Z9.frozen
      replace zZ := Z9.size
      replace cY := Y9.cell
      replace fY := Y9.frozen
      replace zY := Y9.size
      go_wp2
      go_ret
      exact ⟨rfl, by (repeat' (first | (with_reducible exact Below.refl _ _) | (with_reducible assumption) | (with_reducible refine below_drewN ?_ _) | (with_reducible refine Below.drew ?_) | (with_reducible refine Below.alloc ?_ ?_ _) | (with_reducible refine Below.setCell ?_ ?_ _) | go_size))⟩
theorem sk_sv {m d n t : Int} (h : kd m d n ≠ 0) : sk m d n t = sv m d n t := by unfold sk; rw [if_neg h]
theorem cmp_nlt {a b : Int} (h : b ≤ a) : decide (cmp a b < 0) = false := by unfold cmp; rw [if_neg (by omega)]; split <;> rfl
theorem cmp_neg {a b : Int} (h : a < b) : decide (cmp a b < 0) = true := by unfold cmp; rw [if_pos h]; rfl
theorem LinesServe_walk (m : Int) (hm : 0 ≤ m ∧ m ≤ 18446744073709551615) (d : Int) (hd : 0 ≤ d ∧ d ≤ 18446744073709551615) (n : Int) (hn : 0 ≤ n ∧ n ≤ 18446744073709551615) (x : Int) (hx : 0 ≤ x ∧ x ≤ 18446744073709551615) (h : Int) (hh : 0 ≤ h ∧ h ≤ 18446744073709551615) (l : Int) (hl : 0 ≤ l ∧ l ≤ 18446744073709551615) (t : Int) (ht : 0 ≤ t ∧ t ≤ 18446744073709551615) (w : World) :
    Calls Try.prog 4 #[.agg #[.int .u64 m, .int .u64 d, .int .u64 n], .agg #[.int .u64 x, .int .u64 h, .int .u64 l], .int .u64 t] w fun e w' => e = .returned (.bool true) ∧ Below w.heap.size w w' := by
  obtain ⟨y, hy, rfl, rfl⟩ := wv_of hh hl
  rcases hb : (decide (x < 4611686018427387904) && decide (hi y < 1073741824)) with _ | _
  · exact SV_a m d n x y t w hb
  by_cases h1 : 4611686018427387904 ≤ t
  · exact SV_b m d n x y t w hb (decide_eq_true h1)
  by_cases hk : kd m d n = 0
  · exact SV_c m d n x y t w hb (decide_eq_false h1) (by simp [hk]) hm.1 hd.1 hn.1
  have hc := CIn.of hm.1 hd.1 hn.1 hk
  obtain ⟨hx1, hf⟩ := fin_of hx.1 hy hb
  have rs := start_small hc hf
  have rrs := ready_small hc hf
  have e1 := start_serves (t := t) hc hf (by omega)
  have e2 := ready_serves (t := t) hc hf (by omega)
  have hsv := sv_rng (d := d) hc.2.1 hc.2.2.1.1 hc.2.2.2 ht.1
  have hf' := hf
  unfold FIn at hf'
  have u1 : In128 (y + sk m d n t) := by rw [sk_sv hk]; unfold In128; omega
  have W1 : In128 (y + sk m d n t + 1) := by rw [sk_sv hk]; unfold In128; omega
  have s1 : In128 (sk m d n t) := by rw [sk_sv hk]; unfold In128; omega
  have hru : (RN.start m d n x y).at (x + t) = y + sk m d n t := by rw [e1, sk_sv hk]
  have or := RN.small_ok rs
  have orr := RN.small_ok rrs
  have hg := RN.reach_rng or (y + sk m d n t + 1)
  have k1 : decide (cmp ((RN.ready m d n x y).at (x + t)) (y + sk m d n t) < 0) = false := cmp_nlt (by rw [sk_sv hk]; exact e2)
  by_cases hn9 : (RN.start m d n x y).reach (y + sk m d n t + 1) = 9223372036854775808
  · exact SV_d m d n x y t _ _ _ _ _ _ 0 0 0 0 _ _ w hb hm hd hn (by simp [hk]) ⟨hx.1, hx1⟩ hy (by omega) rfl or rfl orr rfl s1 rfl u1 hru rfl (RN.at_in orr _) rfl k1 rfl W1 rfl hg (by simp [hn9])
  · have i1 := RN.reach_iff (x := (RN.start m d n x y).reach (y + sk m d n t + 1)) rs (show 0 ≤ y + sk m d n t + 1 by unfold In128 at W1; omega) hg.1 (by omega)
    have g1 := i1.1 (Int.le_refl _)
    have hgt : x + t < (RN.start m d n x y).reach (y + sk m d n t + 1) := by
      by_cases hc : x + t < (RN.start m d n x y).reach (y + sk m d n t + 1)
      · exact hc
      · have := RN.at_mono rs (x := (RN.start m d n x y).reach (y + sk m d n t + 1)) (y := x + t) (by omega) (by omega)
        omega
    have i2 := RN.reach_iff (x := (RN.start m d n x y).reach (y + sk m d n t + 1) - 1) rs (show 0 ≤ y + sk m d n t + 1 by unfold In128 at W1; omega) (by omega) (by omega)
    have g2 : (RN.start m d n x y).at ((RN.start m d n x y).reach (y + sk m d n t + 1) - 1) < y + sk m d n t + 1 := by omega
    exact SV_e m d n x y t _ _ _ _ _ _ _ _ _ _ _ _ w hb hm hd hn (by simp [hk]) ⟨hx.1, hx1⟩ hy (by omega) rfl or rfl orr rfl s1 rfl u1 hru rfl (RN.at_in orr _) rfl k1 rfl W1 rfl hg (by simp [hn9]) hgt rfl (RN.at_in or _) rfl (cmp_ge g1) rfl (RN.at_in or _) rfl (cmp_neg g2)
namespace linesServeDone
theorem own : ownKnob Try.prog.godebug = none := by kernel_rfl
theorem laidOut : laidOutB Try.prog = true := by kernel_rfl
set_option maxRecDepth 100000 in
theorem lifted (os : Os) (started : os.Started) (H : Type) (enc : TypeId × Value → H) :
    ReturnsInHanded {} Try.checked os 4 .any (Rows.linesServeSpec.pre6 enc Try.prog Try.f4 Rows.linesServeRow.domain false) (Rows.linesServeSpec.post enc Try.prog Try.f4 false true false false) := by
  refine returnsInHanded_of_change (C := Try.checked) own started (by kernel_rfl) Try.func4
    (ChangeSpec.witness6 (enc := enc) (C := Try.checked) false ⟨#[], #[.agg #[.int .u64 0, .int .u64 0, .int .u64 0], .agg #[.int .u64 0, .int .u64 0, .int .u64 0], .int .u64 0], []⟩ 8 (by kernel_rfl) (by kernel_rfl) (by kernel_rfl) (by kernel_rfl)) ?_
  intro W base args ds gs before hval0 hW hcnd _
  have hval : ∀ (j : Nat) t v, Try.f4.params[j]? = some t → args[j]? = some v → Value.okWide Try.prog W .any base t v := hval0
  have hW' := hW
  obtain ⟨p, q, hA0, hV, rfl, hfz, hnd⟩ := hW
  have hA : DataW.TrodAll enc Try.prog W 0 (fun _ => true) true Try.f4.params.toList args.toList ds p := hA0
  rw [Try.params4] at hA hval
  obtain ⟨v0, vs0, d0, ds0, p0, q0, hargs, rfl, rfl, h0, r0⟩ := trodAll_cons hA
  obtain ⟨v1, vs1, d1, ds1, p1, q1, rfl, rfl, rfl, h1, r1⟩ := trodAll_cons r0
  obtain ⟨v2, vs2, d2, ds2, p2, q2, rfl, rfl, rfl, h2, r2⟩ := trodAll_cons r1
  obtain ⟨rfl, rfl, rfl⟩ := trodAll_nil r2
  obtain rfl : args = #[v0, v1, v2] := by cases args; simp_all
  obtain ⟨rfl, rfl⟩ := trodVars_none hV
  have k0 := h0
  have lt0 : ∀ x ∈ p0, x.block < W.heap.size := by obtain ⟨m, hm⟩ := k0; exact DataW.trod_lt m _ _ _ hm
  obtain ⟨x0_0, x0_1, x0_2, y0_0, y0_1, y0_2, m0, rfl, hd0, hp0, q0_0, q0_1, q0_2⟩ := Joins.open_agg3 Try.underlying24 (by kernel_rfl) (show Try.prog.cellsOf 24 = 3 by kernel_rfl) (hval 0 24 v0 rfl rfl) h0
  obtain ⟨a0_0, e0_0, _, wf0_0⟩ := DataW.trod_int Try.underlying22 q0_0
  simp at e0_0
  subst e0_0
  have b0_0 := bounds_u64 wf0_0
  obtain ⟨a0_1, e0_1, _, wf0_1⟩ := DataW.trod_int Try.underlying22 q0_1
  simp at e0_1
  subst e0_1
  have b0_1 := bounds_u64 wf0_1
  obtain ⟨a0_2, e0_2, _, wf0_2⟩ := DataW.trod_int Try.underlying22 q0_2
  simp at e0_2
  subst e0_2
  have b0_2 := bounds_u64 wf0_2
  have k1 := h1
  have lt1 : ∀ x ∈ p1, x.block < W.heap.size := by obtain ⟨m, hm⟩ := k1; exact DataW.trod_lt m _ _ _ hm
  obtain ⟨a1_0, a1_1, a1_2, rfl, b1_0, b1_1, b1_2⟩ := open_from6 (hval 1 28 v1 rfl rfl) h1
  obtain ⟨a2, rfl, rfl, rfl, wf2⟩ := open_int Try.underlying22 (hval 2 22 v2 rfl rfl) h2
  have b2 := bounds_u64 wf2
  clear hA0 hval0
  refine (LinesServe_walk a0_0 b0_0 a0_1 b0_1 a0_2 b0_2 a1_0 b1_0 a1_1 b1_1 a1_2 b1_2 a2 b2 W).mono fun e W' ⟨he, bel⟩ => ?_
  subst he
  exact ⟨_, rfl, _, _, _, [], _, [], hW', trodAll_mk1 (shut_bool Try.underlying4 _), (trodAll_cons_mk (Below.trod laidOut (by kernel_rfl) (of_decide_eq_true (by kernel_rfl)) k0 bel lt0) (trodAll_cons_mk (Below.trod laidOut (by kernel_rfl) (of_decide_eq_true (by kernel_rfl)) k1 bel lt1) (trodAll_cons_mk (shut_int Try.underlying22 wf2) trodAll_mk0))), rfl, bel.frame _, fun h => by cases h⟩
theorem over : Rows.linesServeRow.holds Try.pinned (OpenSpec.ofChange Rows.linesServeSpec) :=
  OpenClaim.holds_of_wide 4 Try.f4 rfl rfl rfl rfl rfl rfl rfl ⟨rfl, rfl, rfl, rfl, rfl⟩ rfl rfl rfl rfl rfl (by kernel_rfl) Try.func4 (by kernel_rfl)
    (of_decide_eq_true (by kernel_rfl)) (by unfold Func.isWrapper; first | (rw [if_pos (by decide +kernel)]; kernel_rfl) | (rw [if_neg (by decide +kernel)]; exact ⟨rfl, rfl⟩))
    (fun os started H enc _ => lifted os started H enc)
end linesServeDone
theorem LinesServe_holds : Rows.LinesServeSaid := linesServeDone.over

end Go.Proofs.Ytaaoadbcgnedkaa
