/-
  The walks of line.Reach, Lower, and of their references. Conditions: fields in range.
-/
import Derived.Test.YtaaoadbcgnedkaaLine
namespace Go.Proofs.Ytaaoadbcgnedkaa
open Go.RowKit Go.Sort
set_option linter.unusedVariables false
set_option linter.unusedSimpArgs false
theorem reach_a (X Y M W x : Int) (w : World) (hX : 0 ≤ X ∧ X ≤ 18446744073709551615) (hY : In128 Y) (hM : 0 ≤ M ∧ M ≤ 18446744073709551615) (hW : In128 W) (hc : cmp W Y = x) (hx : decide (x ≤ 0) = true) :
    Calls Try.prog 53 #[lv X Y M, wv W] w fun e w' => e = .returned (.int .u64 0) ∧ Below w.heap.size w w' := by
  have Hc := hide hc; clear hc
  go_enter Try.func53, Try.ntmps53
  go_wp2_with fail
  refine (wcmpC W Y x _ hW hY Hc.out).mono ?_
  rintro e w1 ⟨rfl, hb1⟩
  have A1 : Blk w1 (w.heap.size) #[.int .u64 X, .int .u64 (hi (Y)), .int .u64 (lo (Y)), .int .u64 M] 38 := Blk.below (by (repeat' (first | (with_reducible (first | assumption | exact Blk.alloc_new _ _ _ (by first | rfl | (simp; done) | omega) | apply Blk.drewN | apply Blk.drew | apply Blk.alloc_old | apply Blk.set_same | apply Blk.set_other)) | (show (_ : Nat) ≠ _; first | omega | (simp; done) | (simp; omega)) | ((simp only [List.setIfInBounds_toArray, List.set_cons_succ, List.set_cons_zero]); (with_reducible exact rfl)) | (with_reducible exact rfl) | (show (_ : Array Value) = _; exact rfl)))) hb1 (by first | (simp; done) | omega | (simp; omega))
  have W1 : Blk w1 (w.heap.size + 1) #[.int .u64 (hi (W)), .int .u64 (lo (W))] 26 := Blk.below (by (repeat' (first | (with_reducible (first | assumption | exact Blk.alloc_new _ _ _ (by first | rfl | (simp; done) | omega) | apply Blk.drewN | apply Blk.drew | apply Blk.alloc_old | apply Blk.set_same | apply Blk.set_other)) | (show (_ : Nat) ≠ _; first | omega | (simp; done) | (simp; omega)) | ((simp only [List.setIfInBounds_toArray, List.set_cons_succ, List.set_cons_zero]); (with_reducible exact rfl)) | (with_reducible exact rfl) | (show (_ : Array Value) = _; exact rfl)))) hb1 (by first | (simp; done) | omega | (simp; omega))
  have g1 : Below w.heap.size w w1 := by refine Below.trans ?_ (hb1.mono ?_) <;> (repeat' (first | (with_reducible (first | exact Below.refl _ _ | assumption | refine below_drewN ?_ _ | refine Below.drew ?_ | refine Below.alloc ?_ ?_ _ | refine Below.setCell ?_ ?_ _)) | go_size))
  have hz1 := hb1.size
  (try simp at hz1)
  clear hb1
  replace cA := A1.cell
  replace fA := A1.frozen
  replace zA := A1.size
  replace cW := W1.cell
  replace fW := W1.frozen
  replace zW := W1.size
  go_wp2
  go_ret
  exact ⟨rfl, by (repeat' (first | (with_reducible (first | exact Below.refl _ _ | assumption | refine below_drewN ?_ _ | refine Below.drew ?_ | refine Below.alloc ?_ ?_ _ | refine Below.setCell ?_ ?_ _)) | go_size))⟩
theorem reach_b (X Y M W x r v e : Int) (w : World) (hX : 0 ≤ X ∧ X ≤ 18446744073709551615) (hY : In128 Y) (hM : 0 ≤ M ∧ M ≤ 18446744073709551615) (hW : In128 W) (hc : cmp W Y = x) (hx : decide (x ≤ 0) = false) (hr : W - Y = r) (hr0 : In128 r) (hv0 : 0 ≤ v ∧ v ≤ 18446744073709551615) (h : CeR r M v e) (he : (e != 0) = true) :
    Calls Try.prog 53 #[lv X Y M, wv W] w fun e w' => e = .returned (.int .u64 9223372036854775808) ∧ Below w.heap.size w w' := by
  have Hc := hide hc; clear hc
  have Hr := hide hr; have H := hide h; clear hr h
  go_enter Try.func53, Try.ntmps53
  go_wp2_with fail
  refine (wcmpC W Y x _ hW hY Hc.out).mono ?_
  rintro e w1 ⟨rfl, hb1⟩
  have A1 : Blk w1 (w.heap.size) #[.int .u64 X, .int .u64 (hi (Y)), .int .u64 (lo (Y)), .int .u64 M] 38 := Blk.below (by (repeat' (first | (with_reducible (first | assumption | exact Blk.alloc_new _ _ _ (by first | rfl | (simp; done) | omega) | apply Blk.drewN | apply Blk.drew | apply Blk.alloc_old | apply Blk.set_same | apply Blk.set_other)) | (show (_ : Nat) ≠ _; first | omega | (simp; done) | (simp; omega)) | ((simp only [List.setIfInBounds_toArray, List.set_cons_succ, List.set_cons_zero]); (with_reducible exact rfl)) | (with_reducible exact rfl) | (show (_ : Array Value) = _; exact rfl)))) hb1 (by first | (simp; done) | omega | (simp; omega))
  have W1 : Blk w1 (w.heap.size + 1) #[.int .u64 (hi (W)), .int .u64 (lo (W))] 26 := Blk.below (by (repeat' (first | (with_reducible (first | assumption | exact Blk.alloc_new _ _ _ (by first | rfl | (simp; done) | omega) | apply Blk.drewN | apply Blk.drew | apply Blk.alloc_old | apply Blk.set_same | apply Blk.set_other)) | (show (_ : Nat) ≠ _; first | omega | (simp; done) | (simp; omega)) | ((simp only [List.setIfInBounds_toArray, List.set_cons_succ, List.set_cons_zero]); (with_reducible exact rfl)) | (with_reducible exact rfl) | (show (_ : Array Value) = _; exact rfl)))) hb1 (by first | (simp; done) | omega | (simp; omega))
  have g1 : Below w.heap.size w w1 := by refine Below.trans ?_ (hb1.mono ?_) <;> (repeat' (first | (with_reducible (first | exact Below.refl _ _ | assumption | refine below_drewN ?_ _ | refine Below.drew ?_ | refine Below.alloc ?_ ?_ _ | refine Below.setCell ?_ ?_ _)) | go_size))
  have hz1 := hb1.size
  (try simp at hz1)
  clear hb1
  replace cA := A1.cell
  replace fA := A1.frozen
  replace zA := A1.size
  replace cW := W1.cell
  replace fW := W1.frozen
  replace zW := W1.size
  go_wp2_with fail
  refine (wSubD W Y r _ hW hY Hr.out hr0).mono ?_
  rintro e w2 ⟨rfl, hb2⟩
  have A2 : Blk w2 (w.heap.size) #[.int .u64 X, .int .u64 (hi (Y)), .int .u64 (lo (Y)), .int .u64 M] 38 := Blk.below (by (repeat' (first | (with_reducible (first | assumption | exact Blk.alloc_new _ _ _ (by first | rfl | (simp; done) | omega) | apply Blk.drewN | apply Blk.drew | apply Blk.alloc_old | apply Blk.set_same | apply Blk.set_other)) | (show (_ : Nat) ≠ _; first | omega | (simp; done) | (simp; omega)) | ((simp only [List.setIfInBounds_toArray, List.set_cons_succ, List.set_cons_zero]); (with_reducible exact rfl)) | (with_reducible exact rfl) | (show (_ : Array Value) = _; exact rfl)))) hb2 (by first | (simp; done) | omega | (simp; omega))
  have W2 : Blk w2 (w.heap.size + 1) #[.int .u64 (hi (W)), .int .u64 (lo (W))] 26 := Blk.below (by (repeat' (first | (with_reducible (first | assumption | exact Blk.alloc_new _ _ _ (by first | rfl | (simp; done) | omega) | apply Blk.drewN | apply Blk.drew | apply Blk.alloc_old | apply Blk.set_same | apply Blk.set_other)) | (show (_ : Nat) ≠ _; first | omega | (simp; done) | (simp; omega)) | ((simp only [List.setIfInBounds_toArray, List.set_cons_succ, List.set_cons_zero]); (with_reducible exact rfl)) | (with_reducible exact rfl) | (show (_ : Array Value) = _; exact rfl)))) hb2 (by first | (simp; done) | omega | (simp; omega))
  have g2 : Below w.heap.size w w2 := by refine Below.trans ?_ (hb2.mono ?_) <;> (repeat' (first | (with_reducible (first | exact Below.refl _ _ | assumption | refine below_drewN ?_ _ | refine Below.drew ?_ | refine Below.alloc ?_ ?_ _ | refine Below.setCell ?_ ?_ _)) | go_size))
  have hz2 := hb2.size
  (try simp at hz2)
  clear hb2
  replace cA := A2.cell
  replace fA := A2.frozen
  replace zA := A2.size
  replace cW := W2.cell
  replace fW := W2.frozen
  replace zW := W2.size
  go_wp2_with fail
  refine (ceil_c r M v e _ hr0 hM H.out).mono ?_
  rintro e w3 ⟨rfl, hb3⟩
  have A3 : Blk w3 (w.heap.size) #[.int .u64 X, .int .u64 (hi (Y)), .int .u64 (lo (Y)), .int .u64 M] 38 := Blk.below (by (repeat' (first | (with_reducible (first | assumption | exact Blk.alloc_new _ _ _ (by first | rfl | (simp; done) | omega) | apply Blk.drewN | apply Blk.drew | apply Blk.alloc_old | apply Blk.set_same | apply Blk.set_other)) | (show (_ : Nat) ≠ _; first | omega | (simp; done) | (simp; omega)) | ((simp only [List.setIfInBounds_toArray, List.set_cons_succ, List.set_cons_zero]); (with_reducible exact rfl)) | (with_reducible exact rfl) | (show (_ : Array Value) = _; exact rfl)))) hb3 (by first | (simp; done) | omega | (simp; omega))
  have g3 : Below w.heap.size w w3 := by refine Below.trans ?_ (hb3.mono ?_) <;> (repeat' (first | (with_reducible (first | exact Below.refl _ _ | assumption | refine below_drewN ?_ _ | refine Below.drew ?_ | refine Below.alloc ?_ ?_ _ | refine Below.setCell ?_ ?_ _)) | go_size))
  have hz3 := hb3.size
  (try simp at hz3)
  clear hb3
  replace cA := A3.cell
  replace fA := A3.frozen
  replace zA := A3.size
  go_wp2
  go_ret
  exact ⟨rfl, by (repeat' (first | (with_reducible (first | exact Below.refl _ _ | assumption | refine below_drewN ?_ _ | refine Below.drew ?_ | refine Below.alloc ?_ ?_ _ | refine Below.setCell ?_ ?_ _)) | go_size))⟩
theorem reach_c (X Y M W x r v e : Int) (w : World) (hX : 0 ≤ X ∧ X ≤ 18446744073709551615) (hY : In128 Y) (hM : 0 ≤ M ∧ M ≤ 18446744073709551615) (hW : In128 W) (hc : cmp W Y = x) (hx : decide (x ≤ 0) = false) (hr : W - Y = r) (hr0 : In128 r) (hv0 : 0 ≤ v ∧ v ≤ 18446744073709551615) (h : CeR r M v e) (he : (e != 0) = false) (h1 : 9223372036854775808 ≤ X) :
    Calls Try.prog 53 #[lv X Y M, wv W] w fun e w' => e = .returned (.int .u64 9223372036854775808) ∧ Below w.heap.size w w' := by
  have Hc := hide hc; clear hc
  have Hr := hide hr; have H := hide h; clear hr h
  have d1 : decide (9223372036854775808 ≤ X) = true := decide_eq_true h1
  go_enter Try.func53, Try.ntmps53
  go_wp2_with fail
  refine (wcmpC W Y x _ hW hY Hc.out).mono ?_
  rintro e w1 ⟨rfl, hb1⟩
  have A1 : Blk w1 (w.heap.size) #[.int .u64 X, .int .u64 (hi (Y)), .int .u64 (lo (Y)), .int .u64 M] 38 := Blk.below (by (repeat' (first | (with_reducible (first | assumption | exact Blk.alloc_new _ _ _ (by first | rfl | (simp; done) | omega) | apply Blk.drewN | apply Blk.drew | apply Blk.alloc_old | apply Blk.set_same | apply Blk.set_other)) | (show (_ : Nat) ≠ _; first | omega | (simp; done) | (simp; omega)) | ((simp only [List.setIfInBounds_toArray, List.set_cons_succ, List.set_cons_zero]); (with_reducible exact rfl)) | (with_reducible exact rfl) | (show (_ : Array Value) = _; exact rfl)))) hb1 (by first | (simp; done) | omega | (simp; omega))
  have W1 : Blk w1 (w.heap.size + 1) #[.int .u64 (hi (W)), .int .u64 (lo (W))] 26 := Blk.below (by (repeat' (first | (with_reducible (first | assumption | exact Blk.alloc_new _ _ _ (by first | rfl | (simp; done) | omega) | apply Blk.drewN | apply Blk.drew | apply Blk.alloc_old | apply Blk.set_same | apply Blk.set_other)) | (show (_ : Nat) ≠ _; first | omega | (simp; done) | (simp; omega)) | ((simp only [List.setIfInBounds_toArray, List.set_cons_succ, List.set_cons_zero]); (with_reducible exact rfl)) | (with_reducible exact rfl) | (show (_ : Array Value) = _; exact rfl)))) hb1 (by first | (simp; done) | omega | (simp; omega))
  have g1 : Below w.heap.size w w1 := by refine Below.trans ?_ (hb1.mono ?_) <;> (repeat' (first | (with_reducible (first | exact Below.refl _ _ | assumption | refine below_drewN ?_ _ | refine Below.drew ?_ | refine Below.alloc ?_ ?_ _ | refine Below.setCell ?_ ?_ _)) | go_size))
  have hz1 := hb1.size
  (try simp at hz1)
  clear hb1
  replace cA := A1.cell
  replace fA := A1.frozen
  replace zA := A1.size
  replace cW := W1.cell
  replace fW := W1.frozen
  replace zW := W1.size
  go_wp2_with fail
  refine (wSubD W Y r _ hW hY Hr.out hr0).mono ?_
  rintro e w2 ⟨rfl, hb2⟩
  have A2 : Blk w2 (w.heap.size) #[.int .u64 X, .int .u64 (hi (Y)), .int .u64 (lo (Y)), .int .u64 M] 38 := Blk.below (by (repeat' (first | (with_reducible (first | assumption | exact Blk.alloc_new _ _ _ (by first | rfl | (simp; done) | omega) | apply Blk.drewN | apply Blk.drew | apply Blk.alloc_old | apply Blk.set_same | apply Blk.set_other)) | (show (_ : Nat) ≠ _; first | omega | (simp; done) | (simp; omega)) | ((simp only [List.setIfInBounds_toArray, List.set_cons_succ, List.set_cons_zero]); (with_reducible exact rfl)) | (with_reducible exact rfl) | (show (_ : Array Value) = _; exact rfl)))) hb2 (by first | (simp; done) | omega | (simp; omega))
  have W2 : Blk w2 (w.heap.size + 1) #[.int .u64 (hi (W)), .int .u64 (lo (W))] 26 := Blk.below (by (repeat' (first | (with_reducible (first | assumption | exact Blk.alloc_new _ _ _ (by first | rfl | (simp; done) | omega) | apply Blk.drewN | apply Blk.drew | apply Blk.alloc_old | apply Blk.set_same | apply Blk.set_other)) | (show (_ : Nat) ≠ _; first | omega | (simp; done) | (simp; omega)) | ((simp only [List.setIfInBounds_toArray, List.set_cons_succ, List.set_cons_zero]); (with_reducible exact rfl)) | (with_reducible exact rfl) | (show (_ : Array Value) = _; exact rfl)))) hb2 (by first | (simp; done) | omega | (simp; omega))
  have g2 : Below w.heap.size w w2 := by refine Below.trans ?_ (hb2.mono ?_) <;> (repeat' (first | (with_reducible (first | exact Below.refl _ _ | assumption | refine below_drewN ?_ _ | refine Below.drew ?_ | refine Below.alloc ?_ ?_ _ | refine Below.setCell ?_ ?_ _)) | go_size))
  have hz2 := hb2.size
  (try simp at hz2)
  clear hb2
  replace cA := A2.cell
  replace fA := A2.frozen
  replace zA := A2.size
  replace cW := W2.cell
  replace fW := W2.frozen
  replace zW := W2.size
  go_wp2_with fail
  refine (ceil_c r M v e _ hr0 hM H.out).mono ?_
  rintro e w3 ⟨rfl, hb3⟩
  have A3 : Blk w3 (w.heap.size) #[.int .u64 X, .int .u64 (hi (Y)), .int .u64 (lo (Y)), .int .u64 M] 38 := Blk.below (by (repeat' (first | (with_reducible (first | assumption | exact Blk.alloc_new _ _ _ (by first | rfl | (simp; done) | omega) | apply Blk.drewN | apply Blk.drew | apply Blk.alloc_old | apply Blk.set_same | apply Blk.set_other)) | (show (_ : Nat) ≠ _; first | omega | (simp; done) | (simp; omega)) | ((simp only [List.setIfInBounds_toArray, List.set_cons_succ, List.set_cons_zero]); (with_reducible exact rfl)) | (with_reducible exact rfl) | (show (_ : Array Value) = _; exact rfl)))) hb3 (by first | (simp; done) | omega | (simp; omega))
  have g3 : Below w.heap.size w w3 := by refine Below.trans ?_ (hb3.mono ?_) <;> (repeat' (first | (with_reducible (first | exact Below.refl _ _ | assumption | refine below_drewN ?_ _ | refine Below.drew ?_ | refine Below.alloc ?_ ?_ _ | refine Below.setCell ?_ ?_ _)) | go_size))
  have hz3 := hb3.size
  (try simp at hz3)
  clear hb3
  replace cA := A3.cell
  replace fA := A3.frozen
  replace zA := A3.size
  go_wp2
  go_ret
  exact ⟨rfl, by (repeat' (first | (with_reducible (first | exact Below.refl _ _ | assumption | refine below_drewN ?_ _ | refine Below.drew ?_ | refine Below.alloc ?_ ?_ _ | refine Below.setCell ?_ ?_ _)) | go_size))⟩
theorem reach_d (X Y M W x r v e : Int) (w : World) (hX : 0 ≤ X ∧ X ≤ 18446744073709551615) (hY : In128 Y) (hM : 0 ≤ M ∧ M ≤ 18446744073709551615) (hW : In128 W) (hc : cmp W Y = x) (hx : decide (x ≤ 0) = false) (hr : W - Y = r) (hr0 : In128 r) (hv0 : 0 ≤ v ∧ v ≤ 18446744073709551615) (h : CeR r M v e) (he : (e != 0) = false) (h1 : X < 9223372036854775808) (h2 : 9223372036854775808 - X ≤ v) :
    Calls Try.prog 53 #[lv X Y M, wv W] w fun e w' => e = .returned (.int .u64 9223372036854775808) ∧ Below w.heap.size w w' := by
  have Hc := hide hc; clear hc
  have Hr := hide hr; have H := hide h; clear hr h
  have d1 : decide (9223372036854775808 ≤ X) = false := decide_eq_false (by omega)
  have d2 : decide (9223372036854775808 - X ≤ v) = true := decide_eq_true h2
  go_enter Try.func53, Try.ntmps53
  go_wp2_with fail
  refine (wcmpC W Y x _ hW hY Hc.out).mono ?_
  rintro e w1 ⟨rfl, hb1⟩
  have A1 : Blk w1 (w.heap.size) #[.int .u64 X, .int .u64 (hi (Y)), .int .u64 (lo (Y)), .int .u64 M] 38 := Blk.below (by (repeat' (first | (with_reducible (first | assumption | exact Blk.alloc_new _ _ _ (by first | rfl | (simp; done) | omega) | apply Blk.drewN | apply Blk.drew | apply Blk.alloc_old | apply Blk.set_same | apply Blk.set_other)) | (show (_ : Nat) ≠ _; first | omega | (simp; done) | (simp; omega)) | ((simp only [List.setIfInBounds_toArray, List.set_cons_succ, List.set_cons_zero]); (with_reducible exact rfl)) | (with_reducible exact rfl) | (show (_ : Array Value) = _; exact rfl)))) hb1 (by first | (simp; done) | omega | (simp; omega))
  have W1 : Blk w1 (w.heap.size + 1) #[.int .u64 (hi (W)), .int .u64 (lo (W))] 26 := Blk.below (by (repeat' (first | (with_reducible (first | assumption | exact Blk.alloc_new _ _ _ (by first | rfl | (simp; done) | omega) | apply Blk.drewN | apply Blk.drew | apply Blk.alloc_old | apply Blk.set_same | apply Blk.set_other)) | (show (_ : Nat) ≠ _; first | omega | (simp; done) | (simp; omega)) | ((simp only [List.setIfInBounds_toArray, List.set_cons_succ, List.set_cons_zero]); (with_reducible exact rfl)) | (with_reducible exact rfl) | (show (_ : Array Value) = _; exact rfl)))) hb1 (by first | (simp; done) | omega | (simp; omega))
  have g1 : Below w.heap.size w w1 := by refine Below.trans ?_ (hb1.mono ?_) <;> (repeat' (first | (with_reducible (first | exact Below.refl _ _ | assumption | refine below_drewN ?_ _ | refine Below.drew ?_ | refine Below.alloc ?_ ?_ _ | refine Below.setCell ?_ ?_ _)) | go_size))
  have hz1 := hb1.size
  (try simp at hz1)
  clear hb1
  replace cA := A1.cell
  replace fA := A1.frozen
  replace zA := A1.size
  replace cW := W1.cell
  replace fW := W1.frozen
  replace zW := W1.size
  go_wp2_with fail
  refine (wSubD W Y r _ hW hY Hr.out hr0).mono ?_
  rintro e w2 ⟨rfl, hb2⟩
  have A2 : Blk w2 (w.heap.size) #[.int .u64 X, .int .u64 (hi (Y)), .int .u64 (lo (Y)), .int .u64 M] 38 := Blk.below (by (repeat' (first | (with_reducible (first | assumption | exact Blk.alloc_new _ _ _ (by first | rfl | (simp; done) | omega) | apply Blk.drewN | apply Blk.drew | apply Blk.alloc_old | apply Blk.set_same | apply Blk.set_other)) | (show (_ : Nat) ≠ _; first | omega | (simp; done) | (simp; omega)) | ((simp only [List.setIfInBounds_toArray, List.set_cons_succ, List.set_cons_zero]); (with_reducible exact rfl)) | (with_reducible exact rfl) | (show (_ : Array Value) = _; exact rfl)))) hb2 (by first | (simp; done) | omega | (simp; omega))
  have W2 : Blk w2 (w.heap.size + 1) #[.int .u64 (hi (W)), .int .u64 (lo (W))] 26 := Blk.below (by (repeat' (first | (with_reducible (first | assumption | exact Blk.alloc_new _ _ _ (by first | rfl | (simp; done) | omega) | apply Blk.drewN | apply Blk.drew | apply Blk.alloc_old | apply Blk.set_same | apply Blk.set_other)) | (show (_ : Nat) ≠ _; first | omega | (simp; done) | (simp; omega)) | ((simp only [List.setIfInBounds_toArray, List.set_cons_succ, List.set_cons_zero]); (with_reducible exact rfl)) | (with_reducible exact rfl) | (show (_ : Array Value) = _; exact rfl)))) hb2 (by first | (simp; done) | omega | (simp; omega))
  have g2 : Below w.heap.size w w2 := by refine Below.trans ?_ (hb2.mono ?_) <;> (repeat' (first | (with_reducible (first | exact Below.refl _ _ | assumption | refine below_drewN ?_ _ | refine Below.drew ?_ | refine Below.alloc ?_ ?_ _ | refine Below.setCell ?_ ?_ _)) | go_size))
  have hz2 := hb2.size
  (try simp at hz2)
  clear hb2
  replace cA := A2.cell
  replace fA := A2.frozen
  replace zA := A2.size
  replace cW := W2.cell
  replace fW := W2.frozen
  replace zW := W2.size
  go_wp2_with fail
  refine (ceil_c r M v e _ hr0 hM H.out).mono ?_
  rintro e w3 ⟨rfl, hb3⟩
  have A3 : Blk w3 (w.heap.size) #[.int .u64 X, .int .u64 (hi (Y)), .int .u64 (lo (Y)), .int .u64 M] 38 := Blk.below (by (repeat' (first | (with_reducible (first | assumption | exact Blk.alloc_new _ _ _ (by first | rfl | (simp; done) | omega) | apply Blk.drewN | apply Blk.drew | apply Blk.alloc_old | apply Blk.set_same | apply Blk.set_other)) | (show (_ : Nat) ≠ _; first | omega | (simp; done) | (simp; omega)) | ((simp only [List.setIfInBounds_toArray, List.set_cons_succ, List.set_cons_zero]); (with_reducible exact rfl)) | (with_reducible exact rfl) | (show (_ : Array Value) = _; exact rfl)))) hb3 (by first | (simp; done) | omega | (simp; omega))
  have g3 : Below w.heap.size w w3 := by refine Below.trans ?_ (hb3.mono ?_) <;> (repeat' (first | (with_reducible (first | exact Below.refl _ _ | assumption | refine below_drewN ?_ _ | refine Below.drew ?_ | refine Below.alloc ?_ ?_ _ | refine Below.setCell ?_ ?_ _)) | go_size))
  have hz3 := hb3.size
  (try simp at hz3)
  clear hb3
  replace cA := A3.cell
  replace fA := A3.frozen
  replace zA := A3.size
  go_wp2
  go_ret
  exact ⟨rfl, by (repeat' (first | (with_reducible (first | exact Below.refl _ _ | assumption | refine below_drewN ?_ _ | refine Below.drew ?_ | refine Below.alloc ?_ ?_ _ | refine Below.setCell ?_ ?_ _)) | go_size))⟩
theorem reach_e (X Y M W x r v e : Int) (w : World) (hX : 0 ≤ X ∧ X ≤ 18446744073709551615) (hY : In128 Y) (hM : 0 ≤ M ∧ M ≤ 18446744073709551615) (hW : In128 W) (hc : cmp W Y = x) (hx : decide (x ≤ 0) = false) (hr : W - Y = r) (hr0 : In128 r) (hv0 : 0 ≤ v ∧ v ≤ 18446744073709551615) (h : CeR r M v e) (he : (e != 0) = false) (h1 : X < 9223372036854775808) (h2 : v < 9223372036854775808 - X) :
    Calls Try.prog 53 #[lv X Y M, wv W] w fun e w' => e = .returned (.int .u64 (X + v)) ∧ Below w.heap.size w w' := by
  have Hc := hide hc; clear hc
  have Hr := hide hr; have H := hide h; clear hr h
  have d1 : decide (9223372036854775808 ≤ X) = false := decide_eq_false (by omega)
  have d2 : decide (9223372036854775808 - X ≤ v) = false := decide_eq_false (by omega)
  go_enter Try.func53, Try.ntmps53
  go_wp2_with fail
  refine (wcmpC W Y x _ hW hY Hc.out).mono ?_
  rintro e w1 ⟨rfl, hb1⟩
  have A1 : Blk w1 (w.heap.size) #[.int .u64 X, .int .u64 (hi (Y)), .int .u64 (lo (Y)), .int .u64 M] 38 := Blk.below (by (repeat' (first | (with_reducible (first | assumption | exact Blk.alloc_new _ _ _ (by first | rfl | (simp; done) | omega) | apply Blk.drewN | apply Blk.drew | apply Blk.alloc_old | apply Blk.set_same | apply Blk.set_other)) | (show (_ : Nat) ≠ _; first | omega | (simp; done) | (simp; omega)) | ((simp only [List.setIfInBounds_toArray, List.set_cons_succ, List.set_cons_zero]); (with_reducible exact rfl)) | (with_reducible exact rfl) | (show (_ : Array Value) = _; exact rfl)))) hb1 (by first | (simp; done) | omega | (simp; omega))
  have W1 : Blk w1 (w.heap.size + 1) #[.int .u64 (hi (W)), .int .u64 (lo (W))] 26 := Blk.below (by (repeat' (first | (with_reducible (first | assumption | exact Blk.alloc_new _ _ _ (by first | rfl | (simp; done) | omega) | apply Blk.drewN | apply Blk.drew | apply Blk.alloc_old | apply Blk.set_same | apply Blk.set_other)) | (show (_ : Nat) ≠ _; first | omega | (simp; done) | (simp; omega)) | ((simp only [List.setIfInBounds_toArray, List.set_cons_succ, List.set_cons_zero]); (with_reducible exact rfl)) | (with_reducible exact rfl) | (show (_ : Array Value) = _; exact rfl)))) hb1 (by first | (simp; done) | omega | (simp; omega))
  have g1 : Below w.heap.size w w1 := by refine Below.trans ?_ (hb1.mono ?_) <;> (repeat' (first | (with_reducible (first | exact Below.refl _ _ | assumption | refine below_drewN ?_ _ | refine Below.drew ?_ | refine Below.alloc ?_ ?_ _ | refine Below.setCell ?_ ?_ _)) | go_size))
  have hz1 := hb1.size
  (try simp at hz1)
  clear hb1
  replace cA := A1.cell
  replace fA := A1.frozen
  replace zA := A1.size
  replace cW := W1.cell
  replace fW := W1.frozen
  replace zW := W1.size
  go_wp2_with fail
  refine (wSubD W Y r _ hW hY Hr.out hr0).mono ?_
  rintro e w2 ⟨rfl, hb2⟩
  have A2 : Blk w2 (w.heap.size) #[.int .u64 X, .int .u64 (hi (Y)), .int .u64 (lo (Y)), .int .u64 M] 38 := Blk.below (by (repeat' (first | (with_reducible (first | assumption | exact Blk.alloc_new _ _ _ (by first | rfl | (simp; done) | omega) | apply Blk.drewN | apply Blk.drew | apply Blk.alloc_old | apply Blk.set_same | apply Blk.set_other)) | (show (_ : Nat) ≠ _; first | omega | (simp; done) | (simp; omega)) | ((simp only [List.setIfInBounds_toArray, List.set_cons_succ, List.set_cons_zero]); (with_reducible exact rfl)) | (with_reducible exact rfl) | (show (_ : Array Value) = _; exact rfl)))) hb2 (by first | (simp; done) | omega | (simp; omega))
  have W2 : Blk w2 (w.heap.size + 1) #[.int .u64 (hi (W)), .int .u64 (lo (W))] 26 := Blk.below (by (repeat' (first | (with_reducible (first | assumption | exact Blk.alloc_new _ _ _ (by first | rfl | (simp; done) | omega) | apply Blk.drewN | apply Blk.drew | apply Blk.alloc_old | apply Blk.set_same | apply Blk.set_other)) | (show (_ : Nat) ≠ _; first | omega | (simp; done) | (simp; omega)) | ((simp only [List.setIfInBounds_toArray, List.set_cons_succ, List.set_cons_zero]); (with_reducible exact rfl)) | (with_reducible exact rfl) | (show (_ : Array Value) = _; exact rfl)))) hb2 (by first | (simp; done) | omega | (simp; omega))
  have g2 : Below w.heap.size w w2 := by refine Below.trans ?_ (hb2.mono ?_) <;> (repeat' (first | (with_reducible (first | exact Below.refl _ _ | assumption | refine below_drewN ?_ _ | refine Below.drew ?_ | refine Below.alloc ?_ ?_ _ | refine Below.setCell ?_ ?_ _)) | go_size))
  have hz2 := hb2.size
  (try simp at hz2)
  clear hb2
  replace cA := A2.cell
  replace fA := A2.frozen
  replace zA := A2.size
  replace cW := W2.cell
  replace fW := W2.frozen
  replace zW := W2.size
  go_wp2_with fail
  refine (ceil_c r M v e _ hr0 hM H.out).mono ?_
  rintro e w3 ⟨rfl, hb3⟩
  have A3 : Blk w3 (w.heap.size) #[.int .u64 X, .int .u64 (hi (Y)), .int .u64 (lo (Y)), .int .u64 M] 38 := Blk.below (by (repeat' (first | (with_reducible (first | assumption | exact Blk.alloc_new _ _ _ (by first | rfl | (simp; done) | omega) | apply Blk.drewN | apply Blk.drew | apply Blk.alloc_old | apply Blk.set_same | apply Blk.set_other)) | (show (_ : Nat) ≠ _; first | omega | (simp; done) | (simp; omega)) | ((simp only [List.setIfInBounds_toArray, List.set_cons_succ, List.set_cons_zero]); (with_reducible exact rfl)) | (with_reducible exact rfl) | (show (_ : Array Value) = _; exact rfl)))) hb3 (by first | (simp; done) | omega | (simp; omega))
  have g3 : Below w.heap.size w w3 := by refine Below.trans ?_ (hb3.mono ?_) <;> (repeat' (first | (with_reducible (first | exact Below.refl _ _ | assumption | refine below_drewN ?_ _ | refine Below.drew ?_ | refine Below.alloc ?_ ?_ _ | refine Below.setCell ?_ ?_ _)) | go_size))
  have hz3 := hb3.size
  (try simp at hz3)
  clear hb3
  replace cA := A3.cell
  replace fA := A3.frozen
  replace zA := A3.size
  go_wp2
  go_ret
  exact ⟨rfl, by (repeat' (first | (with_reducible (first | exact Below.refl _ _ | assumption | refine below_drewN ?_ _ | refine Below.drew ?_ | refine Below.alloc ?_ ?_ _ | refine Below.setCell ?_ ?_ _)) | go_size))⟩
theorem lr_rng {X Y M W : Int} (hX : 0 ≤ X) (hM : 0 ≤ M) : 0 ≤ lr X Y M W ∧ lr X Y M W ≤ 9223372036854775808 := by
  unfold lr; split
  · omega
  · exact ov_rng (by omega) hM hX
theorem lreach (X Y M W t : Int) (w : World) (hX : 0 ≤ X ∧ X ≤ 18446744073709551615) (hY : In128 Y) (hM : 0 ≤ M ∧ M ≤ 18446744073709551615) (hW : In128 W) (ht : lr X Y M W = t) :
    Calls Try.prog 53 #[lv X Y M, wv W] w fun e w' => e = .returned (.int .u64 t) ∧ Below w.heap.size w w' := by
  subst ht
  by_cases h0 : W ≤ Y
  · rw [show lr X Y M W = 0 by unfold lr; rw [if_pos h0]]
    exact reach_a X Y M W _ w hX hY hM hW rfl (cmp_le h0)
  rw [show lr X Y M W = ov (W - Y) M X by unfold lr; rw [if_neg h0]]
  have hx : decide (cmp W Y ≤ 0) = false := by unfold cmp; rw [if_neg (by omega), if_neg (by omega)]; rfl
  have hr0 : In128 (W - Y) := by unfold In128 at *; omega
  obtain ⟨v, e, h⟩ := CeR.ex (W - Y) M hM.1
  by_cases he : e = 0
  · subst he
    have hk := h.ok hr0
    by_cases h1 : 9223372036854775808 ≤ X
    · rw [show ov (W - Y) M X = 9223372036854775808 by unfold ov; rw [if_pos (by omega)]]
      exact reach_c X Y M W _ _ v 0 w hX hY hM hW rfl hx rfl hr0 hk.2.2 h rfl h1
    · by_cases h2 : v < 9223372036854775808 - X
      · rw [show ov (W - Y) M X = X + v by unfold ov; rw [if_neg (by omega)]; omega]
        exact reach_e X Y M W _ _ v 0 w hX hY hM hW rfl hx rfl hr0 hk.2.2 h rfl (by omega) h2
      · rw [show ov (W - Y) M X = 9223372036854775808 by unfold ov; rw [if_pos (by omega)]]
        exact reach_d X Y M W _ _ v 0 w hX hY hM hW rfl hx rfl hr0 hk.2.2 h rfl (by omega) (by omega)
  · have hb := h.big hr0 hM.1 he
    have hv0 : 0 ≤ v ∧ v ≤ 18446744073709551615 := by rcases h with ⟨_, h, _⟩ | ⟨_, _, h, _⟩ | ⟨_, _, _, h⟩ <;> omega
    rw [show ov (W - Y) M X = 9223372036854775808 by unfold ov; rw [if_pos (by omega)]]
    exact reach_b X Y M W _ _ v e w hX hY hM hW rfl hx rfl hr0 hv0 h (bne_iff_ne.2 he)
theorem rreach_a (X Y M W : Int) (w : World) (hX : 0 ≤ X ∧ X ≤ 18446744073709551615) (hY : In128 Y) (hM : 0 ≤ M ∧ M ≤ 18446744073709551615) (hW : In128 W) (hl : decide (Y < W) = false) :
    Calls Try.prog 55 #[rlv X Y M, nv W] w fun e w' => e = .returned (.int .u64 0) ∧ Below w.heap.size w w' := by
  have Hl := hide hl; clear hl
  go_enter Try.func55, Try.ntmps55
  go_wp2_with fail
  refine (rLessC Y W false _ hY hW Hl.out).mono ?_
  rintro e w1 ⟨rfl, hb1⟩
  have A1 : Blk w1 (w.heap.size) #[.int .u64 X, .int .u64 (dg0 (Y)), .int .u64 (dg1 (Y)), .int .u64 (dg2 (Y)), .int .u64 (dg3 (Y)), .int .u64 M] 33 := Blk.below (by (repeat' (first | (with_reducible (first | assumption | exact Blk.alloc_new _ _ _ (by first | rfl | (simp; done) | omega) | apply Blk.drewN | apply Blk.drew | apply Blk.alloc_old | apply Blk.set_same | apply Blk.set_other)) | (show (_ : Nat) ≠ _; first | omega | (simp; done) | (simp; omega)) | ((simp only [List.setIfInBounds_toArray, List.set_cons_succ, List.set_cons_zero]); (with_reducible exact rfl)) | (with_reducible exact rfl) | (show (_ : Array Value) = _; exact rfl)))) hb1 (by first | (simp; done) | omega | (simp; omega))
  have W1 : Blk w1 (w.heap.size + 1) #[.int .u64 (dg0 (W)), .int .u64 (dg1 (W)), .int .u64 (dg2 (W)), .int .u64 (dg3 (W))] 31 := Blk.below (by (repeat' (first | (with_reducible (first | assumption | exact Blk.alloc_new _ _ _ (by first | rfl | (simp; done) | omega) | apply Blk.drewN | apply Blk.drew | apply Blk.alloc_old | apply Blk.set_same | apply Blk.set_other)) | (show (_ : Nat) ≠ _; first | omega | (simp; done) | (simp; omega)) | ((simp only [List.setIfInBounds_toArray, List.set_cons_succ, List.set_cons_zero]); (with_reducible exact rfl)) | (with_reducible exact rfl) | (show (_ : Array Value) = _; exact rfl)))) hb1 (by first | (simp; done) | omega | (simp; omega))
  have g1 : Below w.heap.size w w1 := by refine Below.trans ?_ (hb1.mono ?_) <;> (repeat' (first | (with_reducible (first | exact Below.refl _ _ | assumption | refine below_drewN ?_ _ | refine Below.drew ?_ | refine Below.alloc ?_ ?_ _ | refine Below.setCell ?_ ?_ _)) | go_size))
  have hz1 := hb1.size
  (try simp at hz1)
  clear hb1
  replace cA := A1.cell
  replace fA := A1.frozen
  replace zA := A1.size
  replace cW := W1.cell
  replace fW := W1.frozen
  replace zW := W1.size
  go_wp2
  go_ret
  exact ⟨rfl, by (repeat' (first | (with_reducible (first | exact Below.refl _ _ | assumption | refine below_drewN ?_ _ | refine Below.drew ?_ | refine Below.alloc ?_ ?_ _ | refine Below.setCell ?_ ?_ _)) | go_size))⟩
theorem rreach_b (X Y M W : Int) (w : World) (hX : 0 ≤ X ∧ X ≤ 18446744073709551615) (hY : In128 Y) (hM : 0 ≤ M ∧ M ≤ 18446744073709551615) (hW : In128 W) (hl : decide (Y < W) = true) (h1 : 9223372036854775808 ≤ X) :
    Calls Try.prog 55 #[rlv X Y M, nv W] w fun e w' => e = .returned (.int .u64 9223372036854775808) ∧ Below w.heap.size w w' := by
  have Hl := hide hl; clear hl
  have d1 : decide (9223372036854775808 ≤ X) = true := decide_eq_true h1
  go_enter Try.func55, Try.ntmps55
  go_wp2_with fail
  refine (rLessC Y W true _ hY hW Hl.out).mono ?_
  rintro e w1 ⟨rfl, hb1⟩
  have A1 : Blk w1 (w.heap.size) #[.int .u64 X, .int .u64 (dg0 (Y)), .int .u64 (dg1 (Y)), .int .u64 (dg2 (Y)), .int .u64 (dg3 (Y)), .int .u64 M] 33 := Blk.below (by (repeat' (first | (with_reducible (first | assumption | exact Blk.alloc_new _ _ _ (by first | rfl | (simp; done) | omega) | apply Blk.drewN | apply Blk.drew | apply Blk.alloc_old | apply Blk.set_same | apply Blk.set_other)) | (show (_ : Nat) ≠ _; first | omega | (simp; done) | (simp; omega)) | ((simp only [List.setIfInBounds_toArray, List.set_cons_succ, List.set_cons_zero]); (with_reducible exact rfl)) | (with_reducible exact rfl) | (show (_ : Array Value) = _; exact rfl)))) hb1 (by first | (simp; done) | omega | (simp; omega))
  have W1 : Blk w1 (w.heap.size + 1) #[.int .u64 (dg0 (W)), .int .u64 (dg1 (W)), .int .u64 (dg2 (W)), .int .u64 (dg3 (W))] 31 := Blk.below (by (repeat' (first | (with_reducible (first | assumption | exact Blk.alloc_new _ _ _ (by first | rfl | (simp; done) | omega) | apply Blk.drewN | apply Blk.drew | apply Blk.alloc_old | apply Blk.set_same | apply Blk.set_other)) | (show (_ : Nat) ≠ _; first | omega | (simp; done) | (simp; omega)) | ((simp only [List.setIfInBounds_toArray, List.set_cons_succ, List.set_cons_zero]); (with_reducible exact rfl)) | (with_reducible exact rfl) | (show (_ : Array Value) = _; exact rfl)))) hb1 (by first | (simp; done) | omega | (simp; omega))
  have g1 : Below w.heap.size w w1 := by refine Below.trans ?_ (hb1.mono ?_) <;> (repeat' (first | (with_reducible (first | exact Below.refl _ _ | assumption | refine below_drewN ?_ _ | refine Below.drew ?_ | refine Below.alloc ?_ ?_ _ | refine Below.setCell ?_ ?_ _)) | go_size))
  have hz1 := hb1.size
  (try simp at hz1)
  clear hb1
  replace cA := A1.cell
  replace fA := A1.frozen
  replace zA := A1.size
  replace cW := W1.cell
  replace fW := W1.frozen
  replace zW := W1.size
  go_wp2
  go_ret
  exact ⟨rfl, by (repeat' (first | (with_reducible (first | exact Below.refl _ _ | assumption | refine below_drewN ?_ _ | refine Below.drew ?_ | refine Below.alloc ?_ ?_ _ | refine Below.setCell ?_ ?_ _)) | go_size))⟩
theorem rreach_c (X Y M W r o : Int) (w : World) (hX : 0 ≤ X ∧ X ≤ 18446744073709551615) (hY : In128 Y) (hM : 0 ≤ M ∧ M ≤ 18446744073709551615) (hW : In128 W) (hl : decide (Y < W) = true) (h1 : X < 9223372036854775808) (hr : m128 (W - Y) = r) (hr0 : In128 r) (ho : ov r M X = o) :
    Calls Try.prog 55 #[rlv X Y M, nv W] w fun e w' => e = .returned (.int .u64 o) ∧ Below w.heap.size w w' := by
  have Hl := hide hl; clear hl
  have Hr := hide hr; have Ho := hide ho; clear hr ho
  have d1 : decide (9223372036854775808 ≤ X) = false := decide_eq_false (by omega)
  go_enter Try.func55, Try.ntmps55
  go_wp2_with fail
  refine (rLessC Y W true _ hY hW Hl.out).mono ?_
  rintro e w1 ⟨rfl, hb1⟩
  have A1 : Blk w1 (w.heap.size) #[.int .u64 X, .int .u64 (dg0 (Y)), .int .u64 (dg1 (Y)), .int .u64 (dg2 (Y)), .int .u64 (dg3 (Y)), .int .u64 M] 33 := Blk.below (by (repeat' (first | (with_reducible (first | assumption | exact Blk.alloc_new _ _ _ (by first | rfl | (simp; done) | omega) | apply Blk.drewN | apply Blk.drew | apply Blk.alloc_old | apply Blk.set_same | apply Blk.set_other)) | (show (_ : Nat) ≠ _; first | omega | (simp; done) | (simp; omega)) | ((simp only [List.setIfInBounds_toArray, List.set_cons_succ, List.set_cons_zero]); (with_reducible exact rfl)) | (with_reducible exact rfl) | (show (_ : Array Value) = _; exact rfl)))) hb1 (by first | (simp; done) | omega | (simp; omega))
  have W1 : Blk w1 (w.heap.size + 1) #[.int .u64 (dg0 (W)), .int .u64 (dg1 (W)), .int .u64 (dg2 (W)), .int .u64 (dg3 (W))] 31 := Blk.below (by (repeat' (first | (with_reducible (first | assumption | exact Blk.alloc_new _ _ _ (by first | rfl | (simp; done) | omega) | apply Blk.drewN | apply Blk.drew | apply Blk.alloc_old | apply Blk.set_same | apply Blk.set_other)) | (show (_ : Nat) ≠ _; first | omega | (simp; done) | (simp; omega)) | ((simp only [List.setIfInBounds_toArray, List.set_cons_succ, List.set_cons_zero]); (with_reducible exact rfl)) | (with_reducible exact rfl) | (show (_ : Array Value) = _; exact rfl)))) hb1 (by first | (simp; done) | omega | (simp; omega))
  have g1 : Below w.heap.size w w1 := by refine Below.trans ?_ (hb1.mono ?_) <;> (repeat' (first | (with_reducible (first | exact Below.refl _ _ | assumption | refine below_drewN ?_ _ | refine Below.drew ?_ | refine Below.alloc ?_ ?_ _ | refine Below.setCell ?_ ?_ _)) | go_size))
  have hz1 := hb1.size
  (try simp at hz1)
  clear hb1
  replace cA := A1.cell
  replace fA := A1.frozen
  replace zA := A1.size
  replace cW := W1.cell
  replace fW := W1.frozen
  replace zW := W1.size
  go_wp2_with fail
  refine wp_forget (fun v => Below w.heap.size w v ∧ Blk v (w.heap.size) #[.int .u64 X, .int .u64 (dg0 (Y)), .int .u64 (dg1 (Y)), .int .u64 (dg2 (Y)), .int .u64 (dg3 (Y)), .int .u64 M] 33 ∧ Blk v (w.heap.size + 1) #[.int .u64 (dg0 (W)), .int .u64 (dg1 (W)), .int .u64 (dg2 (W)), .int .u64 (dg3 (W))] 31) ⟨by (repeat' (first | (with_reducible (first | exact Below.refl _ _ | assumption | refine below_drewN ?_ _ | refine Below.drew ?_ | refine Below.alloc ?_ ?_ _ | refine Below.setCell ?_ ?_ _)) | go_size)), by (repeat' (first | (with_reducible (first | assumption | exact Blk.alloc_new _ _ _ (by first | rfl | (simp; done) | omega) | apply Blk.drewN | apply Blk.drew | apply Blk.alloc_old | apply Blk.set_same | apply Blk.set_other)) | (show (_ : Nat) ≠ _; first | omega | (simp; done) | (simp; omega)) | ((simp only [List.setIfInBounds_toArray, List.set_cons_succ, List.set_cons_zero]); (with_reducible exact rfl)) | (with_reducible exact rfl) | (show (_ : Array Value) = _; exact rfl))), by (repeat' (first | (with_reducible (first | assumption | exact Blk.alloc_new _ _ _ (by first | rfl | (simp; done) | omega) | apply Blk.drewN | apply Blk.drew | apply Blk.alloc_old | apply Blk.set_same | apply Blk.set_other)) | (show (_ : Nat) ≠ _; first | omega | (simp; done) | (simp; omega)) | ((simp only [List.setIfInBounds_toArray, List.set_cons_succ, List.set_cons_zero]); (with_reducible exact rfl)) | (with_reducible exact rfl) | (show (_ : Array Value) = _; exact rfl)))⟩ ?_
  rintro v2 ⟨gv2, Av2, Wv2⟩
  have qA2 := blk_calm Av2
  have qW2 := blk_calm Wv2
  refine wp_region_quiet_below (by kernel_rfl) (by kernel_rfl) ?_
  repeat (go_big_quiet_step ((first
      | (go_at_call 67; (with_reducible exact Calls.regrown_of (rMinus' W Y r _ hW hY Hr.out)))
      | (go_at_call 66; (with_reducible exact Calls.regrown_of (rOver r M X o _ hr0 hM (by omega) Ho.out))))))
  refine wpQuiet_nil ?_
  intro _ hw'
  obtain ⟨pq, hw''⟩ := hw'
  subst hw''
  have hb2 := below_regrown v2 pq.d pq.os
  generalize Sort.grow (redrawn v2 pq.d) pq.os = w2 at *
  have A2 : Blk w2 (w.heap.size) #[.int .u64 X, .int .u64 (dg0 (Y)), .int .u64 (dg1 (Y)), .int .u64 (dg2 (Y)), .int .u64 (dg3 (Y)), .int .u64 M] 33 := Blk.below Av2 hb2 Av2.size
  have W2 : Blk w2 (w.heap.size + 1) #[.int .u64 (dg0 (W)), .int .u64 (dg1 (W)), .int .u64 (dg2 (W)), .int .u64 (dg3 (W))] 31 := Blk.below Wv2 hb2 Wv2.size
  have g2 : Below w.heap.size w w2 := gv2.trans (hb2.mono gv2.size)
  have hz2 : w.heap.size ≤ w2.heap.size := g2.size
  clear hb2 gv2 Av2 qA2 Wv2 qW2
  replace cA := A2.cell
  replace fA := A2.frozen
  replace zA := A2.size
  replace cW := W2.cell
  replace fW := W2.frozen
  replace zW := W2.size
  go_wp2
  go_ret
  exact ⟨rfl, by (repeat' (first | (with_reducible (first | exact Below.refl _ _ | assumption | refine below_drewN ?_ _ | refine Below.drew ?_ | refine Below.alloc ?_ ?_ _ | refine Below.setCell ?_ ?_ _)) | go_size))⟩
theorem rlreach (X Y M W t : Int) (w : World) (hX : 0 ≤ X ∧ X ≤ 18446744073709551615) (hY : In128 Y) (hM : 0 ≤ M ∧ M ≤ 18446744073709551615) (hW : In128 W) (ht : lr X Y M W = t) :
    Calls Try.prog 55 #[rlv X Y M, nv W] w fun e w' => e = .returned (.int .u64 t) ∧ Below w.heap.size w w' := by
  subst ht
  by_cases h0 : W ≤ Y
  · rw [show lr X Y M W = 0 by unfold lr; rw [if_pos h0]]
    exact rreach_a X Y M W w hX hY hM hW (by simp; omega)
  rw [show lr X Y M W = ov (W - Y) M X by unfold lr; rw [if_neg h0]]
  have hl : decide (Y < W) = true := by simp; omega
  have hr0 : In128 (W - Y) := by unfold In128 at *; omega
  by_cases h1 : 9223372036854775808 ≤ X
  · rw [show ov (W - Y) M X = 9223372036854775808 by
      unfold ov
      by_cases hm : M = 0
      · rw [if_pos (.inl hm)]
      · have := (up_spec hr0.1 (show 1 ≤ M by omega)).2.2; rw [if_pos (by omega)]]
    exact rreach_b X Y M W w hX hY hM hW hl h1
  · exact rreach_c X Y M W _ _ w hX hY hM hW hl (by omega) (m128_of hr0) hr0 rfl
/-- The second one of two lines is the lower one. -/
def lowB (Xa Ya Ma Xb Yb Mb : Int) : Bool := decide (la Xb Yb Mb (max Xa Xb) < la Xa Ya Ma (max Xa Xb))
set_option maxHeartbeats 1000000 in
theorem low_aa (Xa Ya Ma Xb Yb Mb p q c : Int) (w : World) (hXa : 0 ≤ Xa ∧ Xa ≤ 18446744073709551615) (hYa : In128 Ya) (hMa : 0 ≤ Ma ∧ Ma ≤ 18446744073709551615) (hXb : 0 ≤ Xb ∧ Xb ≤ 18446744073709551615) (hYb : In128 Yb) (hMb : 0 ≤ Mb ∧ Mb ≤ 18446744073709551615) (hp : la Xa Ya Ma Xa = p) (hq : la Xb Yb Mb Xa = q) (p1 : In128 p) (q1 : In128 q) (hg : Xb ≤ Xa) (hc : cmp q p = c) (hcc : decide (c < 0) = false) :
    Calls Try.prog 56 #[lv Xa Ya Ma, lv Xb Yb Mb] w fun e w' => e = .returned (lv Xa Ya Ma) ∧ Below w.heap.size w w' := by
  have Hp := hide hp; have Hq := hide hq; clear hp hq
  have Hc := hide hc; clear hc
  have d1 : decide (Xa < Xb) = false := decide_eq_false (by omega)
  go_enter Try.func56, Try.ntmps56
  go_wp2_with fail
  refine wp_forget (fun v => Below w.heap.size w v ∧ Blk v (w.heap.size) #[.int .u64 Xa, .int .u64 (hi (Ya)), .int .u64 (lo (Ya)), .int .u64 Ma] 38 ∧ Blk v (w.heap.size + 1) #[.int .u64 Xb, .int .u64 (hi (Yb)), .int .u64 (lo (Yb)), .int .u64 Mb] 38 ∧ Blk v (w.heap.size + 1 + 1) #[.int .u64 0, .int .u64 0, .int .u64 0, .int .u64 0] 38) ⟨by (repeat' (first | (with_reducible (first | exact Below.refl _ _ | assumption | refine below_drewN ?_ _ | refine Below.drew ?_ | refine Below.alloc ?_ ?_ _ | refine Below.setCell ?_ ?_ _)) | go_size)), by (repeat' (first | (with_reducible (first | assumption | exact Blk.alloc_new _ _ _ (by first | rfl | (simp; done) | omega) | apply Blk.drewN | apply Blk.drew | apply Blk.alloc_old | apply Blk.set_same | apply Blk.set_other)) | (show (_ : Nat) ≠ _; first | omega | (simp; done) | (simp; omega)) | ((simp only [List.setIfInBounds_toArray, List.set_cons_succ, List.set_cons_zero]); (with_reducible exact rfl)) | (with_reducible exact rfl) | (show (_ : Array Value) = _; exact rfl))), by (repeat' (first | (with_reducible (first | assumption | exact Blk.alloc_new _ _ _ (by first | rfl | (simp; done) | omega) | apply Blk.drewN | apply Blk.drew | apply Blk.alloc_old | apply Blk.set_same | apply Blk.set_other)) | (show (_ : Nat) ≠ _; first | omega | (simp; done) | (simp; omega)) | ((simp only [List.setIfInBounds_toArray, List.set_cons_succ, List.set_cons_zero]); (with_reducible exact rfl)) | (with_reducible exact rfl) | (show (_ : Array Value) = _; exact rfl))), by (repeat' (first | (with_reducible (first | assumption | exact Blk.alloc_new _ _ _ (by first | rfl | (simp; done) | omega) | apply Blk.drewN | apply Blk.drew | apply Blk.alloc_old | apply Blk.set_same | apply Blk.set_other)) | (show (_ : Nat) ≠ _; first | omega | (simp; done) | (simp; omega)) | ((simp only [List.setIfInBounds_toArray, List.set_cons_succ, List.set_cons_zero]); (with_reducible exact rfl)) | (with_reducible exact rfl) | (show (_ : Array Value) = _; exact rfl)))⟩ ?_
  rintro v1 ⟨gv1, Av1, Bv1, Rv1⟩
  have qA1 := blk_calm Av1
  have qB1 := blk_calm Bv1
  have qR1 := blk_calm Rv1
  refine wp_region_quiet_below (by kernel_rfl) (by kernel_rfl) ?_
  repeat (go_big_quiet_step ((first
      | (go_at_call 52; (with_reducible exact Calls.regrown_of (lat Xb Yb Mb Xa q _ hXb hYb hMb (by omega) Hq.out)))
      | (go_at_call 52; (with_reducible exact Calls.regrown_of (lat Xa Ya Ma Xa p _ hXa hYa hMa (by omega) Hp.out)))
      | (go_at_call 23; (with_reducible exact Calls.regrown_of (wcmpC q p c _ q1 p1 Hc.out))))))
  refine wpQuiet_nil ?_
  intro _ hw'
  obtain ⟨pq, hw''⟩ := hw'
  subst hw''
  have hb1 := below_regrown v1 pq.d pq.os
  generalize Sort.grow (redrawn v1 pq.d) pq.os = w1 at *
  have A1 : Blk w1 (w.heap.size) #[.int .u64 Xa, .int .u64 (hi (Ya)), .int .u64 (lo (Ya)), .int .u64 Ma] 38 := Blk.below Av1 hb1 Av1.size
  have B1 : Blk w1 (w.heap.size + 1) #[.int .u64 Xb, .int .u64 (hi (Yb)), .int .u64 (lo (Yb)), .int .u64 Mb] 38 := Blk.below Bv1 hb1 Bv1.size
  have R1 : Blk w1 (w.heap.size + 1 + 1) #[.int .u64 0, .int .u64 0, .int .u64 0, .int .u64 0] 38 := Blk.below Rv1 hb1 Rv1.size
  have g1 : Below w.heap.size w w1 := gv1.trans (hb1.mono gv1.size)
  have hz1 : w.heap.size ≤ w1.heap.size := g1.size
  clear hb1 gv1 Av1 qA1 Bv1 qB1 Rv1 qR1
  replace cA := A1.cell
  replace fA := A1.frozen
  replace zA := A1.size
  replace cB := B1.cell
  replace fB := B1.frozen
  replace zB := B1.size
  replace cR := R1.cell
  replace fR := R1.frozen
  replace zR := R1.size
  go_wp2
  refine bp_forget (fun v => Below w.heap.size w v ∧ Blk v (w.heap.size + 1 + 1) #[.int .u64 Xa, .int .u64 (hi (Ya)), .int .u64 (lo (Ya)), .int .u64 Ma] 38) ⟨by (repeat' (first | (with_reducible (first | exact Below.refl _ _ | assumption | refine below_drewN ?_ _ | refine Below.drew ?_ | refine Below.alloc ?_ ?_ _ | refine Below.setCell ?_ ?_ _)) | go_size)), by (repeat' (first | (with_reducible (first | assumption | exact Blk.alloc_new _ _ _ (by first | rfl | (simp; done) | omega) | apply Blk.drewN | apply Blk.drew | apply Blk.alloc_old | apply Blk.set_same | apply Blk.set_other)) | (show (_ : Nat) ≠ _; first | omega | (simp; done) | (simp; omega)) | ((simp only [List.setIfInBounds_toArray, List.set_cons_succ, List.set_cons_zero]); (with_reducible exact rfl)) | (with_reducible exact rfl) | (show (_ : Array Value) = _; exact rfl)))⟩ ?_
  rintro v ⟨gv, Bv⟩
  have cv := Bv.cell
  refine bodyPost_ret (v := lv Xa Ya Ma) (by simp [results, Try.results56, go_sem, cv]) rfl ⟨rfl, gv⟩
set_option maxHeartbeats 1000000 in
theorem low_ab (Xa Ya Ma Xb Yb Mb p q c : Int) (w : World) (hXa : 0 ≤ Xa ∧ Xa ≤ 18446744073709551615) (hYa : In128 Ya) (hMa : 0 ≤ Ma ∧ Ma ≤ 18446744073709551615) (hXb : 0 ≤ Xb ∧ Xb ≤ 18446744073709551615) (hYb : In128 Yb) (hMb : 0 ≤ Mb ∧ Mb ≤ 18446744073709551615) (hp : la Xa Ya Ma Xa = p) (hq : la Xb Yb Mb Xa = q) (p1 : In128 p) (q1 : In128 q) (hg : Xb ≤ Xa) (hc : cmp q p = c) (hcc : decide (c < 0) = true) :
    Calls Try.prog 56 #[lv Xa Ya Ma, lv Xb Yb Mb] w fun e w' => e = .returned (lv Xb Yb Mb) ∧ Below w.heap.size w w' := by
  have Hp := hide hp; have Hq := hide hq; clear hp hq
  have Hc := hide hc; clear hc
  have d1 : decide (Xa < Xb) = false := decide_eq_false (by omega)
  go_enter Try.func56, Try.ntmps56
  go_wp2_with fail
  refine wp_forget (fun v => Below w.heap.size w v ∧ Blk v (w.heap.size) #[.int .u64 Xa, .int .u64 (hi (Ya)), .int .u64 (lo (Ya)), .int .u64 Ma] 38 ∧ Blk v (w.heap.size + 1) #[.int .u64 Xb, .int .u64 (hi (Yb)), .int .u64 (lo (Yb)), .int .u64 Mb] 38 ∧ Blk v (w.heap.size + 1 + 1) #[.int .u64 0, .int .u64 0, .int .u64 0, .int .u64 0] 38) ⟨by (repeat' (first | (with_reducible (first | exact Below.refl _ _ | assumption | refine below_drewN ?_ _ | refine Below.drew ?_ | refine Below.alloc ?_ ?_ _ | refine Below.setCell ?_ ?_ _)) | go_size)), by (repeat' (first | (with_reducible (first | assumption | exact Blk.alloc_new _ _ _ (by first | rfl | (simp; done) | omega) | apply Blk.drewN | apply Blk.drew | apply Blk.alloc_old | apply Blk.set_same | apply Blk.set_other)) | (show (_ : Nat) ≠ _; first | omega | (simp; done) | (simp; omega)) | ((simp only [List.setIfInBounds_toArray, List.set_cons_succ, List.set_cons_zero]); (with_reducible exact rfl)) | (with_reducible exact rfl) | (show (_ : Array Value) = _; exact rfl))), by (repeat' (first | (with_reducible (first | assumption | exact Blk.alloc_new _ _ _ (by first | rfl | (simp; done) | omega) | apply Blk.drewN | apply Blk.drew | apply Blk.alloc_old | apply Blk.set_same | apply Blk.set_other)) | (show (_ : Nat) ≠ _; first | omega | (simp; done) | (simp; omega)) | ((simp only [List.setIfInBounds_toArray, List.set_cons_succ, List.set_cons_zero]); (with_reducible exact rfl)) | (with_reducible exact rfl) | (show (_ : Array Value) = _; exact rfl))), by (repeat' (first | (with_reducible (first | assumption | exact Blk.alloc_new _ _ _ (by first | rfl | (simp; done) | omega) | apply Blk.drewN | apply Blk.drew | apply Blk.alloc_old | apply Blk.set_same | apply Blk.set_other)) | (show (_ : Nat) ≠ _; first | omega | (simp; done) | (simp; omega)) | ((simp only [List.setIfInBounds_toArray, List.set_cons_succ, List.set_cons_zero]); (with_reducible exact rfl)) | (with_reducible exact rfl) | (show (_ : Array Value) = _; exact rfl)))⟩ ?_
  rintro v1 ⟨gv1, Av1, Bv1, Rv1⟩
  have qA1 := blk_calm Av1
  have qB1 := blk_calm Bv1
  have qR1 := blk_calm Rv1
  refine wp_region_quiet_below (by kernel_rfl) (by kernel_rfl) ?_
  repeat (go_big_quiet_step ((first
      | (go_at_call 52; (with_reducible exact Calls.regrown_of (lat Xb Yb Mb Xa q _ hXb hYb hMb (by omega) Hq.out)))
      | (go_at_call 52; (with_reducible exact Calls.regrown_of (lat Xa Ya Ma Xa p _ hXa hYa hMa (by omega) Hp.out)))
      | (go_at_call 23; (with_reducible exact Calls.regrown_of (wcmpC q p c _ q1 p1 Hc.out))))))
  refine wpQuiet_nil ?_
  intro _ hw'
  obtain ⟨pq, hw''⟩ := hw'
  subst hw''
  have hb1 := below_regrown v1 pq.d pq.os
  generalize Sort.grow (redrawn v1 pq.d) pq.os = w1 at *
  have A1 : Blk w1 (w.heap.size) #[.int .u64 Xa, .int .u64 (hi (Ya)), .int .u64 (lo (Ya)), .int .u64 Ma] 38 := Blk.below Av1 hb1 Av1.size
  have B1 : Blk w1 (w.heap.size + 1) #[.int .u64 Xb, .int .u64 (hi (Yb)), .int .u64 (lo (Yb)), .int .u64 Mb] 38 := Blk.below Bv1 hb1 Bv1.size
  have R1 : Blk w1 (w.heap.size + 1 + 1) #[.int .u64 0, .int .u64 0, .int .u64 0, .int .u64 0] 38 := Blk.below Rv1 hb1 Rv1.size
  have g1 : Below w.heap.size w w1 := gv1.trans (hb1.mono gv1.size)
  have hz1 : w.heap.size ≤ w1.heap.size := g1.size
  clear hb1 gv1 Av1 qA1 Bv1 qB1 Rv1 qR1
  replace cA := A1.cell
  replace fA := A1.frozen
  replace zA := A1.size
  replace cB := B1.cell
  replace fB := B1.frozen
  replace zB := B1.size
  replace cR := R1.cell
  replace fR := R1.frozen
  replace zR := R1.size
  go_wp2
  refine bp_forget (fun v => Below w.heap.size w v ∧ Blk v (w.heap.size + 1 + 1) #[.int .u64 Xb, .int .u64 (hi (Yb)), .int .u64 (lo (Yb)), .int .u64 Mb] 38) ⟨by (repeat' (first | (with_reducible (first | exact Below.refl _ _ | assumption | refine below_drewN ?_ _ | refine Below.drew ?_ | refine Below.alloc ?_ ?_ _ | refine Below.setCell ?_ ?_ _)) | go_size)), by (repeat' (first | (with_reducible (first | assumption | exact Blk.alloc_new _ _ _ (by first | rfl | (simp; done) | omega) | apply Blk.drewN | apply Blk.drew | apply Blk.alloc_old | apply Blk.set_same | apply Blk.set_other)) | (show (_ : Nat) ≠ _; first | omega | (simp; done) | (simp; omega)) | ((simp only [List.setIfInBounds_toArray, List.set_cons_succ, List.set_cons_zero]); (with_reducible exact rfl)) | (with_reducible exact rfl) | (show (_ : Array Value) = _; exact rfl)))⟩ ?_
  rintro v ⟨gv, Bv⟩
  have cv := Bv.cell
  refine bodyPost_ret (v := lv Xb Yb Mb) (by simp [results, Try.results56, go_sem, cv]) rfl ⟨rfl, gv⟩
set_option maxHeartbeats 1000000 in
theorem low_ba (Xa Ya Ma Xb Yb Mb p q c : Int) (w : World) (hXa : 0 ≤ Xa ∧ Xa ≤ 18446744073709551615) (hYa : In128 Ya) (hMa : 0 ≤ Ma ∧ Ma ≤ 18446744073709551615) (hXb : 0 ≤ Xb ∧ Xb ≤ 18446744073709551615) (hYb : In128 Yb) (hMb : 0 ≤ Mb ∧ Mb ≤ 18446744073709551615) (hp : la Xa Ya Ma Xb = p) (hq : la Xb Yb Mb Xb = q) (p1 : In128 p) (q1 : In128 q) (hg : Xa < Xb) (hc : cmp q p = c) (hcc : decide (c < 0) = false) :
    Calls Try.prog 56 #[lv Xa Ya Ma, lv Xb Yb Mb] w fun e w' => e = .returned (lv Xa Ya Ma) ∧ Below w.heap.size w w' := by
  have Hp := hide hp; have Hq := hide hq; clear hp hq
  have Hc := hide hc; clear hc
  have d1 : decide (Xa < Xb) = true := decide_eq_true (by omega)
  go_enter Try.func56, Try.ntmps56
  go_wp2_with fail
  refine wp_forget (fun v => Below w.heap.size w v ∧ Blk v (w.heap.size) #[.int .u64 Xa, .int .u64 (hi (Ya)), .int .u64 (lo (Ya)), .int .u64 Ma] 38 ∧ Blk v (w.heap.size + 1) #[.int .u64 Xb, .int .u64 (hi (Yb)), .int .u64 (lo (Yb)), .int .u64 Mb] 38 ∧ Blk v (w.heap.size + 1 + 1) #[.int .u64 0, .int .u64 0, .int .u64 0, .int .u64 0] 38) ⟨by (repeat' (first | (with_reducible (first | exact Below.refl _ _ | assumption | refine below_drewN ?_ _ | refine Below.drew ?_ | refine Below.alloc ?_ ?_ _ | refine Below.setCell ?_ ?_ _)) | go_size)), by (repeat' (first | (with_reducible (first | assumption | exact Blk.alloc_new _ _ _ (by first | rfl | (simp; done) | omega) | apply Blk.drewN | apply Blk.drew | apply Blk.alloc_old | apply Blk.set_same | apply Blk.set_other)) | (show (_ : Nat) ≠ _; first | omega | (simp; done) | (simp; omega)) | ((simp only [List.setIfInBounds_toArray, List.set_cons_succ, List.set_cons_zero]); (with_reducible exact rfl)) | (with_reducible exact rfl) | (show (_ : Array Value) = _; exact rfl))), by (repeat' (first | (with_reducible (first | assumption | exact Blk.alloc_new _ _ _ (by first | rfl | (simp; done) | omega) | apply Blk.drewN | apply Blk.drew | apply Blk.alloc_old | apply Blk.set_same | apply Blk.set_other)) | (show (_ : Nat) ≠ _; first | omega | (simp; done) | (simp; omega)) | ((simp only [List.setIfInBounds_toArray, List.set_cons_succ, List.set_cons_zero]); (with_reducible exact rfl)) | (with_reducible exact rfl) | (show (_ : Array Value) = _; exact rfl))), by (repeat' (first | (with_reducible (first | assumption | exact Blk.alloc_new _ _ _ (by first | rfl | (simp; done) | omega) | apply Blk.drewN | apply Blk.drew | apply Blk.alloc_old | apply Blk.set_same | apply Blk.set_other)) | (show (_ : Nat) ≠ _; first | omega | (simp; done) | (simp; omega)) | ((simp only [List.setIfInBounds_toArray, List.set_cons_succ, List.set_cons_zero]); (with_reducible exact rfl)) | (with_reducible exact rfl) | (show (_ : Array Value) = _; exact rfl)))⟩ ?_
  rintro v1 ⟨gv1, Av1, Bv1, Rv1⟩
  have qA1 := blk_calm Av1
  have qB1 := blk_calm Bv1
  have qR1 := blk_calm Rv1
  refine wp_region_quiet_below (by kernel_rfl) (by kernel_rfl) ?_
  repeat (go_big_quiet_step ((first
      | (go_at_call 52; (with_reducible exact Calls.regrown_of (lat Xb Yb Mb Xb q _ hXb hYb hMb (by omega) Hq.out)))
      | (go_at_call 52; (with_reducible exact Calls.regrown_of (lat Xa Ya Ma Xb p _ hXa hYa hMa (by omega) Hp.out)))
      | (go_at_call 23; (with_reducible exact Calls.regrown_of (wcmpC q p c _ q1 p1 Hc.out))))))
  refine wpQuiet_nil ?_
  intro _ hw'
  obtain ⟨pq, hw''⟩ := hw'
  subst hw''
  have hb1 := below_regrown v1 pq.d pq.os
  generalize Sort.grow (redrawn v1 pq.d) pq.os = w1 at *
  have A1 : Blk w1 (w.heap.size) #[.int .u64 Xa, .int .u64 (hi (Ya)), .int .u64 (lo (Ya)), .int .u64 Ma] 38 := Blk.below Av1 hb1 Av1.size
  have B1 : Blk w1 (w.heap.size + 1) #[.int .u64 Xb, .int .u64 (hi (Yb)), .int .u64 (lo (Yb)), .int .u64 Mb] 38 := Blk.below Bv1 hb1 Bv1.size
  have R1 : Blk w1 (w.heap.size + 1 + 1) #[.int .u64 0, .int .u64 0, .int .u64 0, .int .u64 0] 38 := Blk.below Rv1 hb1 Rv1.size
  have g1 : Below w.heap.size w w1 := gv1.trans (hb1.mono gv1.size)
  have hz1 : w.heap.size ≤ w1.heap.size := g1.size
  clear hb1 gv1 Av1 qA1 Bv1 qB1 Rv1 qR1
  replace cA := A1.cell
  replace fA := A1.frozen
  replace zA := A1.size
  replace cB := B1.cell
  replace fB := B1.frozen
  replace zB := B1.size
  replace cR := R1.cell
  replace fR := R1.frozen
  replace zR := R1.size
  go_wp2
  refine bp_forget (fun v => Below w.heap.size w v ∧ Blk v (w.heap.size + 1 + 1) #[.int .u64 Xa, .int .u64 (hi (Ya)), .int .u64 (lo (Ya)), .int .u64 Ma] 38) ⟨by (repeat' (first | (with_reducible (first | exact Below.refl _ _ | assumption | refine below_drewN ?_ _ | refine Below.drew ?_ | refine Below.alloc ?_ ?_ _ | refine Below.setCell ?_ ?_ _)) | go_size)), by (repeat' (first | (with_reducible (first | assumption | exact Blk.alloc_new _ _ _ (by first | rfl | (simp; done) | omega) | apply Blk.drewN | apply Blk.drew | apply Blk.alloc_old | apply Blk.set_same | apply Blk.set_other)) | (show (_ : Nat) ≠ _; first | omega | (simp; done) | (simp; omega)) | ((simp only [List.setIfInBounds_toArray, List.set_cons_succ, List.set_cons_zero]); (with_reducible exact rfl)) | (with_reducible exact rfl) | (show (_ : Array Value) = _; exact rfl)))⟩ ?_
  rintro v ⟨gv, Bv⟩
  have cv := Bv.cell
  refine bodyPost_ret (v := lv Xa Ya Ma) (by simp [results, Try.results56, go_sem, cv]) rfl ⟨rfl, gv⟩
set_option maxHeartbeats 1000000 in
theorem low_bb (Xa Ya Ma Xb Yb Mb p q c : Int) (w : World) (hXa : 0 ≤ Xa ∧ Xa ≤ 18446744073709551615) (hYa : In128 Ya) (hMa : 0 ≤ Ma ∧ Ma ≤ 18446744073709551615) (hXb : 0 ≤ Xb ∧ Xb ≤ 18446744073709551615) (hYb : In128 Yb) (hMb : 0 ≤ Mb ∧ Mb ≤ 18446744073709551615) (hp : la Xa Ya Ma Xb = p) (hq : la Xb Yb Mb Xb = q) (p1 : In128 p) (q1 : In128 q) (hg : Xa < Xb) (hc : cmp q p = c) (hcc : decide (c < 0) = true) :
    Calls Try.prog 56 #[lv Xa Ya Ma, lv Xb Yb Mb] w fun e w' => e = .returned (lv Xb Yb Mb) ∧ Below w.heap.size w w' := by
  have Hp := hide hp; have Hq := hide hq; clear hp hq
  have Hc := hide hc; clear hc
  have d1 : decide (Xa < Xb) = true := decide_eq_true (by omega)
  go_enter Try.func56, Try.ntmps56
  go_wp2_with fail
  refine wp_forget (fun v => Below w.heap.size w v ∧ Blk v (w.heap.size) #[.int .u64 Xa, .int .u64 (hi (Ya)), .int .u64 (lo (Ya)), .int .u64 Ma] 38 ∧ Blk v (w.heap.size + 1) #[.int .u64 Xb, .int .u64 (hi (Yb)), .int .u64 (lo (Yb)), .int .u64 Mb] 38 ∧ Blk v (w.heap.size + 1 + 1) #[.int .u64 0, .int .u64 0, .int .u64 0, .int .u64 0] 38) ⟨by (repeat' (first | (with_reducible (first | exact Below.refl _ _ | assumption | refine below_drewN ?_ _ | refine Below.drew ?_ | refine Below.alloc ?_ ?_ _ | refine Below.setCell ?_ ?_ _)) | go_size)), by (repeat' (first | (with_reducible (first | assumption | exact Blk.alloc_new _ _ _ (by first | rfl | (simp; done) | omega) | apply Blk.drewN | apply Blk.drew | apply Blk.alloc_old | apply Blk.set_same | apply Blk.set_other)) | (show (_ : Nat) ≠ _; first | omega | (simp; done) | (simp; omega)) | ((simp only [List.setIfInBounds_toArray, List.set_cons_succ, List.set_cons_zero]); (with_reducible exact rfl)) | (with_reducible exact rfl) | (show (_ : Array Value) = _; exact rfl))), by (repeat' (first | (with_reducible (first | assumption | exact Blk.alloc_new _ _ _ (by first | rfl | (simp; done) | omega) | apply Blk.drewN | apply Blk.drew | apply Blk.alloc_old | apply Blk.set_same | apply Blk.set_other)) | (show (_ : Nat) ≠ _; first | omega | (simp; done) | (simp; omega)) | ((simp only [List.setIfInBounds_toArray, List.set_cons_succ, List.set_cons_zero]); (with_reducible exact rfl)) | (with_reducible exact rfl) | (show (_ : Array Value) = _; exact rfl))), by (repeat' (first | (with_reducible (first | assumption | exact Blk.alloc_new _ _ _ (by first | rfl | (simp; done) | omega) | apply Blk.drewN | apply Blk.drew | apply Blk.alloc_old | apply Blk.set_same | apply Blk.set_other)) | (show (_ : Nat) ≠ _; first | omega | (simp; done) | (simp; omega)) | ((simp only [List.setIfInBounds_toArray, List.set_cons_succ, List.set_cons_zero]); (with_reducible exact rfl)) | (with_reducible exact rfl) | (show (_ : Array Value) = _; exact rfl)))⟩ ?_
  rintro v1 ⟨gv1, Av1, Bv1, Rv1⟩
  have qA1 := blk_calm Av1
  have qB1 := blk_calm Bv1
  have qR1 := blk_calm Rv1
  refine wp_region_quiet_below (by kernel_rfl) (by kernel_rfl) ?_
  repeat (go_big_quiet_step ((first
      | (go_at_call 52; (with_reducible exact Calls.regrown_of (lat Xb Yb Mb Xb q _ hXb hYb hMb (by omega) Hq.out)))
      | (go_at_call 52; (with_reducible exact Calls.regrown_of (lat Xa Ya Ma Xb p _ hXa hYa hMa (by omega) Hp.out)))
      | (go_at_call 23; (with_reducible exact Calls.regrown_of (wcmpC q p c _ q1 p1 Hc.out))))))
  refine wpQuiet_nil ?_
  intro _ hw'
  obtain ⟨pq, hw''⟩ := hw'
  subst hw''
  have hb1 := below_regrown v1 pq.d pq.os
  generalize Sort.grow (redrawn v1 pq.d) pq.os = w1 at *
  have A1 : Blk w1 (w.heap.size) #[.int .u64 Xa, .int .u64 (hi (Ya)), .int .u64 (lo (Ya)), .int .u64 Ma] 38 := Blk.below Av1 hb1 Av1.size
  have B1 : Blk w1 (w.heap.size + 1) #[.int .u64 Xb, .int .u64 (hi (Yb)), .int .u64 (lo (Yb)), .int .u64 Mb] 38 := Blk.below Bv1 hb1 Bv1.size
  have R1 : Blk w1 (w.heap.size + 1 + 1) #[.int .u64 0, .int .u64 0, .int .u64 0, .int .u64 0] 38 := Blk.below Rv1 hb1 Rv1.size
  have g1 : Below w.heap.size w w1 := gv1.trans (hb1.mono gv1.size)
  have hz1 : w.heap.size ≤ w1.heap.size := g1.size
  clear hb1 gv1 Av1 qA1 Bv1 qB1 Rv1 qR1
  replace cA := A1.cell
  replace fA := A1.frozen
  replace zA := A1.size
  replace cB := B1.cell
  replace fB := B1.frozen
  replace zB := B1.size
  replace cR := R1.cell
  replace fR := R1.frozen
  replace zR := R1.size
  go_wp2
  refine bp_forget (fun v => Below w.heap.size w v ∧ Blk v (w.heap.size + 1 + 1) #[.int .u64 Xb, .int .u64 (hi (Yb)), .int .u64 (lo (Yb)), .int .u64 Mb] 38) ⟨by (repeat' (first | (with_reducible (first | exact Below.refl _ _ | assumption | refine below_drewN ?_ _ | refine Below.drew ?_ | refine Below.alloc ?_ ?_ _ | refine Below.setCell ?_ ?_ _)) | go_size)), by (repeat' (first | (with_reducible (first | assumption | exact Blk.alloc_new _ _ _ (by first | rfl | (simp; done) | omega) | apply Blk.drewN | apply Blk.drew | apply Blk.alloc_old | apply Blk.set_same | apply Blk.set_other)) | (show (_ : Nat) ≠ _; first | omega | (simp; done) | (simp; omega)) | ((simp only [List.setIfInBounds_toArray, List.set_cons_succ, List.set_cons_zero]); (with_reducible exact rfl)) | (with_reducible exact rfl) | (show (_ : Array Value) = _; exact rfl)))⟩ ?_
  rintro v ⟨gv, Bv⟩
  have cv := Bv.cell
  refine bodyPost_ret (v := lv Xb Yb Mb) (by simp [results, Try.results56, go_sem, cv]) rfl ⟨rfl, gv⟩
theorem low_any (Xa Ya Ma Xb Yb Mb X Y M : Int) (w : World) (hXa : 0 ≤ Xa ∧ Xa ≤ 18446744073709551615) (hYa : In128 Ya) (hMa : 0 ≤ Ma ∧ Ma ≤ 18446744073709551615) (hXb : 0 ≤ Xb ∧ Xb ≤ 18446744073709551615) (hYb : In128 Yb) (hMb : 0 ≤ Mb ∧ Mb ≤ 18446744073709551615) (hr : (lowB Xa Ya Ma Xb Yb Mb = true ∧ X = Xb ∧ Y = Yb ∧ M = Mb) ∨ (lowB Xa Ya Ma Xb Yb Mb = false ∧ X = Xa ∧ Y = Ya ∧ M = Ma)) :
    Calls Try.prog 56 #[lv Xa Ya Ma, lv Xb Yb Mb] w fun e w' => e = .returned (lv X Y M) ∧ Below w.heap.size w w' := by
  have i1 := la_in (X := Xa) (M := Ma) (x := max Xa Xb) hYa
  have i2 := la_in (X := Xb) (M := Mb) (x := max Xa Xb) hYb
  unfold lowB at hr
  by_cases hg : Xa < Xb
  · rw [show max Xa Xb = Xb by omega] at *
    rcases hr with ⟨h, rfl, rfl, rfl⟩ | ⟨h, rfl, rfl, rfl⟩
    · exact low_bb _ _ _ _ _ _ _ _ _ w hXa hYa hMa hXb hYb hMb rfl rfl i1 i2 (by omega) rfl (by have := of_decide_eq_true h; unfold cmp; rw [if_pos this]; rfl)
    · exact low_ba _ _ _ _ _ _ _ _ _ w hXa hYa hMa hXb hYb hMb rfl rfl i1 i2 (by omega) rfl (by have := of_decide_eq_false h; unfold cmp; rw [if_neg this]; split <;> rfl)
  · rw [show max Xa Xb = Xa by omega] at *
    rcases hr with ⟨h, rfl, rfl, rfl⟩ | ⟨h, rfl, rfl, rfl⟩
    · exact low_ab _ _ _ _ _ _ _ _ _ w hXa hYa hMa hXb hYb hMb rfl rfl i1 i2 (by omega) rfl (by have := of_decide_eq_true h; unfold cmp; rw [if_pos this]; rfl)
    · exact low_aa _ _ _ _ _ _ _ _ _ w hXa hYa hMa hXb hYb hMb rfl rfl i1 i2 (by omega) rfl (by have := of_decide_eq_false h; unfold cmp; rw [if_neg this]; split <;> rfl)
set_option maxHeartbeats 1000000 in
theorem rlow_aa (Xa Ya Ma Xb Yb Mb p q : Int) (w : World) (hXa : 0 ≤ Xa ∧ Xa ≤ 18446744073709551615) (hYa : In128 Ya) (hMa : 0 ≤ Ma ∧ Ma ≤ 18446744073709551615) (hXb : 0 ≤ Xb ∧ Xb ≤ 18446744073709551615) (hYb : In128 Yb) (hMb : 0 ≤ Mb ∧ Mb ≤ 18446744073709551615) (hp : la Xa Ya Ma Xa = p) (hq : la Xb Yb Mb Xa = q) (p1 : In128 p) (q1 : In128 q) (hg : Xb ≤ Xa) (hcc : decide (q < p) = false) :
    Calls Try.prog 57 #[rlv Xa Ya Ma, rlv Xb Yb Mb] w fun e w' => e = .returned (rlv Xa Ya Ma) ∧ Below w.heap.size w w' := by
  have Hp := hide hp; have Hq := hide hq; clear hp hq
  have Hcc := hide hcc; clear hcc
  have d1 : decide (Xa < Xb) = false := decide_eq_false (by omega)
  go_enter Try.func57, Try.ntmps57
  go_wp2_with fail
  refine wp_forget (fun v => Below w.heap.size w v ∧ Blk v (w.heap.size) #[.int .u64 Xa, .int .u64 (dg0 (Ya)), .int .u64 (dg1 (Ya)), .int .u64 (dg2 (Ya)), .int .u64 (dg3 (Ya)), .int .u64 Ma] 33 ∧ Blk v (w.heap.size + 1) #[.int .u64 Xb, .int .u64 (dg0 (Yb)), .int .u64 (dg1 (Yb)), .int .u64 (dg2 (Yb)), .int .u64 (dg3 (Yb)), .int .u64 Mb] 33 ∧ Blk v (w.heap.size + 1 + 1) #[.int .u64 0, .int .u64 0, .int .u64 0, .int .u64 0, .int .u64 0, .int .u64 0] 33) ⟨by (repeat' (first | (with_reducible (first | exact Below.refl _ _ | assumption | refine below_drewN ?_ _ | refine Below.drew ?_ | refine Below.alloc ?_ ?_ _ | refine Below.setCell ?_ ?_ _)) | go_size)), by (repeat' (first | (with_reducible (first | assumption | exact Blk.alloc_new _ _ _ (by first | rfl | (simp; done) | omega) | apply Blk.drewN | apply Blk.drew | apply Blk.alloc_old | apply Blk.set_same | apply Blk.set_other)) | (show (_ : Nat) ≠ _; first | omega | (simp; done) | (simp; omega)) | ((simp only [List.setIfInBounds_toArray, List.set_cons_succ, List.set_cons_zero]); (with_reducible exact rfl)) | (with_reducible exact rfl) | (show (_ : Array Value) = _; exact rfl))), by (repeat' (first | (with_reducible (first | assumption | exact Blk.alloc_new _ _ _ (by first | rfl | (simp; done) | omega) | apply Blk.drewN | apply Blk.drew | apply Blk.alloc_old | apply Blk.set_same | apply Blk.set_other)) | (show (_ : Nat) ≠ _; first | omega | (simp; done) | (simp; omega)) | ((simp only [List.setIfInBounds_toArray, List.set_cons_succ, List.set_cons_zero]); (with_reducible exact rfl)) | (with_reducible exact rfl) | (show (_ : Array Value) = _; exact rfl))), by (repeat' (first | (with_reducible (first | assumption | exact Blk.alloc_new _ _ _ (by first | rfl | (simp; done) | omega) | apply Blk.drewN | apply Blk.drew | apply Blk.alloc_old | apply Blk.set_same | apply Blk.set_other)) | (show (_ : Nat) ≠ _; first | omega | (simp; done) | (simp; omega)) | ((simp only [List.setIfInBounds_toArray, List.set_cons_succ, List.set_cons_zero]); (with_reducible exact rfl)) | (with_reducible exact rfl) | (show (_ : Array Value) = _; exact rfl)))⟩ ?_
  rintro v1 ⟨gv1, Av1, Bv1, Rv1⟩
  have qA1 := blk_calm Av1
  have qB1 := blk_calm Bv1
  have qR1 := blk_calm Rv1
  refine wp_region_quiet_below (by kernel_rfl) (by kernel_rfl) ?_
  repeat (go_big_quiet_step ((first
      | (go_at_call 54; (with_reducible exact Calls.regrown_of (rlat Xb Yb Mb Xa q _ hXb hYb hMb (by omega) Hq.out)))
      | (go_at_call 54; (with_reducible exact Calls.regrown_of (rlat Xa Ya Ma Xa p _ hXa hYa hMa (by omega) Hp.out)))
      | (go_at_call 42; (with_reducible exact Calls.regrown_of (rLessC q p false _ q1 p1 Hcc.out))))))
  refine wpQuiet_nil ?_
  intro _ hw'
  obtain ⟨pq, hw''⟩ := hw'
  subst hw''
  have hb1 := below_regrown v1 pq.d pq.os
  generalize Sort.grow (redrawn v1 pq.d) pq.os = w1 at *
  have A1 : Blk w1 (w.heap.size) #[.int .u64 Xa, .int .u64 (dg0 (Ya)), .int .u64 (dg1 (Ya)), .int .u64 (dg2 (Ya)), .int .u64 (dg3 (Ya)), .int .u64 Ma] 33 := Blk.below Av1 hb1 Av1.size
  have B1 : Blk w1 (w.heap.size + 1) #[.int .u64 Xb, .int .u64 (dg0 (Yb)), .int .u64 (dg1 (Yb)), .int .u64 (dg2 (Yb)), .int .u64 (dg3 (Yb)), .int .u64 Mb] 33 := Blk.below Bv1 hb1 Bv1.size
  have R1 : Blk w1 (w.heap.size + 1 + 1) #[.int .u64 0, .int .u64 0, .int .u64 0, .int .u64 0, .int .u64 0, .int .u64 0] 33 := Blk.below Rv1 hb1 Rv1.size
  have g1 : Below w.heap.size w w1 := gv1.trans (hb1.mono gv1.size)
  have hz1 : w.heap.size ≤ w1.heap.size := g1.size
  clear hb1 gv1 Av1 qA1 Bv1 qB1 Rv1 qR1
  replace cA := A1.cell
  replace fA := A1.frozen
  replace zA := A1.size
  replace cB := B1.cell
  replace fB := B1.frozen
  replace zB := B1.size
  replace cR := R1.cell
  replace fR := R1.frozen
  replace zR := R1.size
  go_wp2
  refine bp_forget (fun v => Below w.heap.size w v ∧ Blk v (w.heap.size + 1 + 1) #[.int .u64 Xa, .int .u64 (dg0 (Ya)), .int .u64 (dg1 (Ya)), .int .u64 (dg2 (Ya)), .int .u64 (dg3 (Ya)), .int .u64 Ma] 33) ⟨by (repeat' (first | (with_reducible (first | exact Below.refl _ _ | assumption | refine below_drewN ?_ _ | refine Below.drew ?_ | refine Below.alloc ?_ ?_ _ | refine Below.setCell ?_ ?_ _)) | go_size)), by (repeat' (first | (with_reducible (first | assumption | exact Blk.alloc_new _ _ _ (by first | rfl | (simp; done) | omega) | apply Blk.drewN | apply Blk.drew | apply Blk.alloc_old | apply Blk.set_same | apply Blk.set_other)) | (show (_ : Nat) ≠ _; first | omega | (simp; done) | (simp; omega)) | ((simp only [List.setIfInBounds_toArray, List.set_cons_succ, List.set_cons_zero]); (with_reducible exact rfl)) | (with_reducible exact rfl) | (show (_ : Array Value) = _; exact rfl)))⟩ ?_
  rintro v ⟨gv, Bv⟩
  have cv := Bv.cell
  refine bodyPost_ret (v := rlv Xa Ya Ma) (by simp [results, Try.results57, go_sem, cv]) rfl ⟨rfl, gv⟩
set_option maxHeartbeats 1000000 in
theorem rlow_ab (Xa Ya Ma Xb Yb Mb p q : Int) (w : World) (hXa : 0 ≤ Xa ∧ Xa ≤ 18446744073709551615) (hYa : In128 Ya) (hMa : 0 ≤ Ma ∧ Ma ≤ 18446744073709551615) (hXb : 0 ≤ Xb ∧ Xb ≤ 18446744073709551615) (hYb : In128 Yb) (hMb : 0 ≤ Mb ∧ Mb ≤ 18446744073709551615) (hp : la Xa Ya Ma Xa = p) (hq : la Xb Yb Mb Xa = q) (p1 : In128 p) (q1 : In128 q) (hg : Xb ≤ Xa) (hcc : decide (q < p) = true) :
    Calls Try.prog 57 #[rlv Xa Ya Ma, rlv Xb Yb Mb] w fun e w' => e = .returned (rlv Xb Yb Mb) ∧ Below w.heap.size w w' := by
  have Hp := hide hp; have Hq := hide hq; clear hp hq
  have Hcc := hide hcc; clear hcc
  have d1 : decide (Xa < Xb) = false := decide_eq_false (by omega)
  go_enter Try.func57, Try.ntmps57
  go_wp2_with fail
  refine wp_forget (fun v => Below w.heap.size w v ∧ Blk v (w.heap.size) #[.int .u64 Xa, .int .u64 (dg0 (Ya)), .int .u64 (dg1 (Ya)), .int .u64 (dg2 (Ya)), .int .u64 (dg3 (Ya)), .int .u64 Ma] 33 ∧ Blk v (w.heap.size + 1) #[.int .u64 Xb, .int .u64 (dg0 (Yb)), .int .u64 (dg1 (Yb)), .int .u64 (dg2 (Yb)), .int .u64 (dg3 (Yb)), .int .u64 Mb] 33 ∧ Blk v (w.heap.size + 1 + 1) #[.int .u64 0, .int .u64 0, .int .u64 0, .int .u64 0, .int .u64 0, .int .u64 0] 33) ⟨by (repeat' (first | (with_reducible (first | exact Below.refl _ _ | assumption | refine below_drewN ?_ _ | refine Below.drew ?_ | refine Below.alloc ?_ ?_ _ | refine Below.setCell ?_ ?_ _)) | go_size)), by (repeat' (first | (with_reducible (first | assumption | exact Blk.alloc_new _ _ _ (by first | rfl | (simp; done) | omega) | apply Blk.drewN | apply Blk.drew | apply Blk.alloc_old | apply Blk.set_same | apply Blk.set_other)) | (show (_ : Nat) ≠ _; first | omega | (simp; done) | (simp; omega)) | ((simp only [List.setIfInBounds_toArray, List.set_cons_succ, List.set_cons_zero]); (with_reducible exact rfl)) | (with_reducible exact rfl) | (show (_ : Array Value) = _; exact rfl))), by (repeat' (first | (with_reducible (first | assumption | exact Blk.alloc_new _ _ _ (by first | rfl | (simp; done) | omega) | apply Blk.drewN | apply Blk.drew | apply Blk.alloc_old | apply Blk.set_same | apply Blk.set_other)) | (show (_ : Nat) ≠ _; first | omega | (simp; done) | (simp; omega)) | ((simp only [List.setIfInBounds_toArray, List.set_cons_succ, List.set_cons_zero]); (with_reducible exact rfl)) | (with_reducible exact rfl) | (show (_ : Array Value) = _; exact rfl))), by (repeat' (first | (with_reducible (first | assumption | exact Blk.alloc_new _ _ _ (by first | rfl | (simp; done) | omega) | apply Blk.drewN | apply Blk.drew | apply Blk.alloc_old | apply Blk.set_same | apply Blk.set_other)) | (show (_ : Nat) ≠ _; first | omega | (simp; done) | (simp; omega)) | ((simp only [List.setIfInBounds_toArray, List.set_cons_succ, List.set_cons_zero]); (with_reducible exact rfl)) | (with_reducible exact rfl) | (show (_ : Array Value) = _; exact rfl)))⟩ ?_
  rintro v1 ⟨gv1, Av1, Bv1, Rv1⟩
  have qA1 := blk_calm Av1
  have qB1 := blk_calm Bv1
  have qR1 := blk_calm Rv1
  refine wp_region_quiet_below (by kernel_rfl) (by kernel_rfl) ?_
  repeat (go_big_quiet_step ((first
      | (go_at_call 54; (with_reducible exact Calls.regrown_of (rlat Xb Yb Mb Xa q _ hXb hYb hMb (by omega) Hq.out)))
      | (go_at_call 54; (with_reducible exact Calls.regrown_of (rlat Xa Ya Ma Xa p _ hXa hYa hMa (by omega) Hp.out)))
      | (go_at_call 42; (with_reducible exact Calls.regrown_of (rLessC q p true _ q1 p1 Hcc.out))))))
  refine wpQuiet_nil ?_
  intro _ hw'
  obtain ⟨pq, hw''⟩ := hw'
  subst hw''
  have hb1 := below_regrown v1 pq.d pq.os
  generalize Sort.grow (redrawn v1 pq.d) pq.os = w1 at *
  have A1 : Blk w1 (w.heap.size) #[.int .u64 Xa, .int .u64 (dg0 (Ya)), .int .u64 (dg1 (Ya)), .int .u64 (dg2 (Ya)), .int .u64 (dg3 (Ya)), .int .u64 Ma] 33 := Blk.below Av1 hb1 Av1.size
  have B1 : Blk w1 (w.heap.size + 1) #[.int .u64 Xb, .int .u64 (dg0 (Yb)), .int .u64 (dg1 (Yb)), .int .u64 (dg2 (Yb)), .int .u64 (dg3 (Yb)), .int .u64 Mb] 33 := Blk.below Bv1 hb1 Bv1.size
  have R1 : Blk w1 (w.heap.size + 1 + 1) #[.int .u64 0, .int .u64 0, .int .u64 0, .int .u64 0, .int .u64 0, .int .u64 0] 33 := Blk.below Rv1 hb1 Rv1.size
  have g1 : Below w.heap.size w w1 := gv1.trans (hb1.mono gv1.size)
  have hz1 : w.heap.size ≤ w1.heap.size := g1.size
  clear hb1 gv1 Av1 qA1 Bv1 qB1 Rv1 qR1
  replace cA := A1.cell
  replace fA := A1.frozen
  replace zA := A1.size
  replace cB := B1.cell
  replace fB := B1.frozen
  replace zB := B1.size
  replace cR := R1.cell
  replace fR := R1.frozen
  replace zR := R1.size
  go_wp2
  refine bp_forget (fun v => Below w.heap.size w v ∧ Blk v (w.heap.size + 1 + 1) #[.int .u64 Xb, .int .u64 (dg0 (Yb)), .int .u64 (dg1 (Yb)), .int .u64 (dg2 (Yb)), .int .u64 (dg3 (Yb)), .int .u64 Mb] 33) ⟨by (repeat' (first | (with_reducible (first | exact Below.refl _ _ | assumption | refine below_drewN ?_ _ | refine Below.drew ?_ | refine Below.alloc ?_ ?_ _ | refine Below.setCell ?_ ?_ _)) | go_size)), by (repeat' (first | (with_reducible (first | assumption | exact Blk.alloc_new _ _ _ (by first | rfl | (simp; done) | omega) | apply Blk.drewN | apply Blk.drew | apply Blk.alloc_old | apply Blk.set_same | apply Blk.set_other)) | (show (_ : Nat) ≠ _; first | omega | (simp; done) | (simp; omega)) | ((simp only [List.setIfInBounds_toArray, List.set_cons_succ, List.set_cons_zero]); (with_reducible exact rfl)) | (with_reducible exact rfl) | (show (_ : Array Value) = _; exact rfl)))⟩ ?_
  rintro v ⟨gv, Bv⟩
  have cv := Bv.cell
  refine bodyPost_ret (v := rlv Xb Yb Mb) (by simp [results, Try.results57, go_sem, cv]) rfl ⟨rfl, gv⟩
set_option maxHeartbeats 1000000 in
theorem rlow_ba (Xa Ya Ma Xb Yb Mb p q : Int) (w : World) (hXa : 0 ≤ Xa ∧ Xa ≤ 18446744073709551615) (hYa : In128 Ya) (hMa : 0 ≤ Ma ∧ Ma ≤ 18446744073709551615) (hXb : 0 ≤ Xb ∧ Xb ≤ 18446744073709551615) (hYb : In128 Yb) (hMb : 0 ≤ Mb ∧ Mb ≤ 18446744073709551615) (hp : la Xa Ya Ma Xb = p) (hq : la Xb Yb Mb Xb = q) (p1 : In128 p) (q1 : In128 q) (hg : Xa < Xb) (hcc : decide (q < p) = false) :
    Calls Try.prog 57 #[rlv Xa Ya Ma, rlv Xb Yb Mb] w fun e w' => e = .returned (rlv Xa Ya Ma) ∧ Below w.heap.size w w' := by
  have Hp := hide hp; have Hq := hide hq; clear hp hq
  have Hcc := hide hcc; clear hcc
  have d1 : decide (Xa < Xb) = true := decide_eq_true (by omega)
  go_enter Try.func57, Try.ntmps57
  go_wp2_with fail
  refine wp_forget (fun v => Below w.heap.size w v ∧ Blk v (w.heap.size) #[.int .u64 Xa, .int .u64 (dg0 (Ya)), .int .u64 (dg1 (Ya)), .int .u64 (dg2 (Ya)), .int .u64 (dg3 (Ya)), .int .u64 Ma] 33 ∧ Blk v (w.heap.size + 1) #[.int .u64 Xb, .int .u64 (dg0 (Yb)), .int .u64 (dg1 (Yb)), .int .u64 (dg2 (Yb)), .int .u64 (dg3 (Yb)), .int .u64 Mb] 33 ∧ Blk v (w.heap.size + 1 + 1) #[.int .u64 0, .int .u64 0, .int .u64 0, .int .u64 0, .int .u64 0, .int .u64 0] 33) ⟨by (repeat' (first | (with_reducible (first | exact Below.refl _ _ | assumption | refine below_drewN ?_ _ | refine Below.drew ?_ | refine Below.alloc ?_ ?_ _ | refine Below.setCell ?_ ?_ _)) | go_size)), by (repeat' (first | (with_reducible (first | assumption | exact Blk.alloc_new _ _ _ (by first | rfl | (simp; done) | omega) | apply Blk.drewN | apply Blk.drew | apply Blk.alloc_old | apply Blk.set_same | apply Blk.set_other)) | (show (_ : Nat) ≠ _; first | omega | (simp; done) | (simp; omega)) | ((simp only [List.setIfInBounds_toArray, List.set_cons_succ, List.set_cons_zero]); (with_reducible exact rfl)) | (with_reducible exact rfl) | (show (_ : Array Value) = _; exact rfl))), by (repeat' (first | (with_reducible (first | assumption | exact Blk.alloc_new _ _ _ (by first | rfl | (simp; done) | omega) | apply Blk.drewN | apply Blk.drew | apply Blk.alloc_old | apply Blk.set_same | apply Blk.set_other)) | (show (_ : Nat) ≠ _; first | omega | (simp; done) | (simp; omega)) | ((simp only [List.setIfInBounds_toArray, List.set_cons_succ, List.set_cons_zero]); (with_reducible exact rfl)) | (with_reducible exact rfl) | (show (_ : Array Value) = _; exact rfl))), by (repeat' (first | (with_reducible (first | assumption | exact Blk.alloc_new _ _ _ (by first | rfl | (simp; done) | omega) | apply Blk.drewN | apply Blk.drew | apply Blk.alloc_old | apply Blk.set_same | apply Blk.set_other)) | (show (_ : Nat) ≠ _; first | omega | (simp; done) | (simp; omega)) | ((simp only [List.setIfInBounds_toArray, List.set_cons_succ, List.set_cons_zero]); (with_reducible exact rfl)) | (with_reducible exact rfl) | (show (_ : Array Value) = _; exact rfl)))⟩ ?_
  rintro v1 ⟨gv1, Av1, Bv1, Rv1⟩
  have qA1 := blk_calm Av1
  have qB1 := blk_calm Bv1
  have qR1 := blk_calm Rv1
  refine wp_region_quiet_below (by kernel_rfl) (by kernel_rfl) ?_
  repeat (go_big_quiet_step ((first
      | (go_at_call 54; (with_reducible exact Calls.regrown_of (rlat Xb Yb Mb Xb q _ hXb hYb hMb (by omega) Hq.out)))
      | (go_at_call 54; (with_reducible exact Calls.regrown_of (rlat Xa Ya Ma Xb p _ hXa hYa hMa (by omega) Hp.out)))
      | (go_at_call 42; (with_reducible exact Calls.regrown_of (rLessC q p false _ q1 p1 Hcc.out))))))
  refine wpQuiet_nil ?_
  intro _ hw'
  obtain ⟨pq, hw''⟩ := hw'
  subst hw''
  have hb1 := below_regrown v1 pq.d pq.os
  generalize Sort.grow (redrawn v1 pq.d) pq.os = w1 at *
  have A1 : Blk w1 (w.heap.size) #[.int .u64 Xa, .int .u64 (dg0 (Ya)), .int .u64 (dg1 (Ya)), .int .u64 (dg2 (Ya)), .int .u64 (dg3 (Ya)), .int .u64 Ma] 33 := Blk.below Av1 hb1 Av1.size
  have B1 : Blk w1 (w.heap.size + 1) #[.int .u64 Xb, .int .u64 (dg0 (Yb)), .int .u64 (dg1 (Yb)), .int .u64 (dg2 (Yb)), .int .u64 (dg3 (Yb)), .int .u64 Mb] 33 := Blk.below Bv1 hb1 Bv1.size
  have R1 : Blk w1 (w.heap.size + 1 + 1) #[.int .u64 0, .int .u64 0, .int .u64 0, .int .u64 0, .int .u64 0, .int .u64 0] 33 := Blk.below Rv1 hb1 Rv1.size
  have g1 : Below w.heap.size w w1 := gv1.trans (hb1.mono gv1.size)
  have hz1 : w.heap.size ≤ w1.heap.size := g1.size
  clear hb1 gv1 Av1 qA1 Bv1 qB1 Rv1 qR1
  replace cA := A1.cell
  replace fA := A1.frozen
  replace zA := A1.size
  replace cB := B1.cell
  replace fB := B1.frozen
  replace zB := B1.size
  replace cR := R1.cell
  replace fR := R1.frozen
  replace zR := R1.size
  go_wp2
  refine bp_forget (fun v => Below w.heap.size w v ∧ Blk v (w.heap.size + 1 + 1) #[.int .u64 Xa, .int .u64 (dg0 (Ya)), .int .u64 (dg1 (Ya)), .int .u64 (dg2 (Ya)), .int .u64 (dg3 (Ya)), .int .u64 Ma] 33) ⟨by (repeat' (first | (with_reducible (first | exact Below.refl _ _ | assumption | refine below_drewN ?_ _ | refine Below.drew ?_ | refine Below.alloc ?_ ?_ _ | refine Below.setCell ?_ ?_ _)) | go_size)), by (repeat' (first | (with_reducible (first | assumption | exact Blk.alloc_new _ _ _ (by first | rfl | (simp; done) | omega) | apply Blk.drewN | apply Blk.drew | apply Blk.alloc_old | apply Blk.set_same | apply Blk.set_other)) | (show (_ : Nat) ≠ _; first | omega | (simp; done) | (simp; omega)) | ((simp only [List.setIfInBounds_toArray, List.set_cons_succ, List.set_cons_zero]); (with_reducible exact rfl)) | (with_reducible exact rfl) | (show (_ : Array Value) = _; exact rfl)))⟩ ?_
  rintro v ⟨gv, Bv⟩
  have cv := Bv.cell
  refine bodyPost_ret (v := rlv Xa Ya Ma) (by simp [results, Try.results57, go_sem, cv]) rfl ⟨rfl, gv⟩
set_option maxHeartbeats 1000000 in
theorem rlow_bb (Xa Ya Ma Xb Yb Mb p q : Int) (w : World) (hXa : 0 ≤ Xa ∧ Xa ≤ 18446744073709551615) (hYa : In128 Ya) (hMa : 0 ≤ Ma ∧ Ma ≤ 18446744073709551615) (hXb : 0 ≤ Xb ∧ Xb ≤ 18446744073709551615) (hYb : In128 Yb) (hMb : 0 ≤ Mb ∧ Mb ≤ 18446744073709551615) (hp : la Xa Ya Ma Xb = p) (hq : la Xb Yb Mb Xb = q) (p1 : In128 p) (q1 : In128 q) (hg : Xa < Xb) (hcc : decide (q < p) = true) :
    Calls Try.prog 57 #[rlv Xa Ya Ma, rlv Xb Yb Mb] w fun e w' => e = .returned (rlv Xb Yb Mb) ∧ Below w.heap.size w w' := by
  have Hp := hide hp; have Hq := hide hq; clear hp hq
  have Hcc := hide hcc; clear hcc
  have d1 : decide (Xa < Xb) = true := decide_eq_true (by omega)
  go_enter Try.func57, Try.ntmps57
  go_wp2_with fail
  refine wp_forget (fun v => Below w.heap.size w v ∧ Blk v (w.heap.size) #[.int .u64 Xa, .int .u64 (dg0 (Ya)), .int .u64 (dg1 (Ya)), .int .u64 (dg2 (Ya)), .int .u64 (dg3 (Ya)), .int .u64 Ma] 33 ∧ Blk v (w.heap.size + 1) #[.int .u64 Xb, .int .u64 (dg0 (Yb)), .int .u64 (dg1 (Yb)), .int .u64 (dg2 (Yb)), .int .u64 (dg3 (Yb)), .int .u64 Mb] 33 ∧ Blk v (w.heap.size + 1 + 1) #[.int .u64 0, .int .u64 0, .int .u64 0, .int .u64 0, .int .u64 0, .int .u64 0] 33) ⟨by (repeat' (first | (with_reducible (first | exact Below.refl _ _ | assumption | refine below_drewN ?_ _ | refine Below.drew ?_ | refine Below.alloc ?_ ?_ _ | refine Below.setCell ?_ ?_ _)) | go_size)), by (repeat' (first | (with_reducible (first | assumption | exact Blk.alloc_new _ _ _ (by first | rfl | (simp; done) | omega) | apply Blk.drewN | apply Blk.drew | apply Blk.alloc_old | apply Blk.set_same | apply Blk.set_other)) | (show (_ : Nat) ≠ _; first | omega | (simp; done) | (simp; omega)) | ((simp only [List.setIfInBounds_toArray, List.set_cons_succ, List.set_cons_zero]); (with_reducible exact rfl)) | (with_reducible exact rfl) | (show (_ : Array Value) = _; exact rfl))), by (repeat' (first | (with_reducible (first | assumption | exact Blk.alloc_new _ _ _ (by first | rfl | (simp; done) | omega) | apply Blk.drewN | apply Blk.drew | apply Blk.alloc_old | apply Blk.set_same | apply Blk.set_other)) | (show (_ : Nat) ≠ _; first | omega | (simp; done) | (simp; omega)) | ((simp only [List.setIfInBounds_toArray, List.set_cons_succ, List.set_cons_zero]); (with_reducible exact rfl)) | (with_reducible exact rfl) | (show (_ : Array Value) = _; exact rfl))), by (repeat' (first | (with_reducible (first | assumption | exact Blk.alloc_new _ _ _ (by first | rfl | (simp; done) | omega) | apply Blk.drewN | apply Blk.drew | apply Blk.alloc_old | apply Blk.set_same | apply Blk.set_other)) | (show (_ : Nat) ≠ _; first | omega | (simp; done) | (simp; omega)) | ((simp only [List.setIfInBounds_toArray, List.set_cons_succ, List.set_cons_zero]); (with_reducible exact rfl)) | (with_reducible exact rfl) | (show (_ : Array Value) = _; exact rfl)))⟩ ?_
  rintro v1 ⟨gv1, Av1, Bv1, Rv1⟩
  have qA1 := blk_calm Av1
  have qB1 := blk_calm Bv1
  have qR1 := blk_calm Rv1
  refine wp_region_quiet_below (by kernel_rfl) (by kernel_rfl) ?_
  repeat (go_big_quiet_step ((first
      | (go_at_call 54; (with_reducible exact Calls.regrown_of (rlat Xb Yb Mb Xb q _ hXb hYb hMb (by omega) Hq.out)))
      | (go_at_call 54; (with_reducible exact Calls.regrown_of (rlat Xa Ya Ma Xb p _ hXa hYa hMa (by omega) Hp.out)))
      | (go_at_call 42; (with_reducible exact Calls.regrown_of (rLessC q p true _ q1 p1 Hcc.out))))))
  refine wpQuiet_nil ?_
  intro _ hw'
  obtain ⟨pq, hw''⟩ := hw'
  subst hw''
  have hb1 := below_regrown v1 pq.d pq.os
  generalize Sort.grow (redrawn v1 pq.d) pq.os = w1 at *
  have A1 : Blk w1 (w.heap.size) #[.int .u64 Xa, .int .u64 (dg0 (Ya)), .int .u64 (dg1 (Ya)), .int .u64 (dg2 (Ya)), .int .u64 (dg3 (Ya)), .int .u64 Ma] 33 := Blk.below Av1 hb1 Av1.size
  have B1 : Blk w1 (w.heap.size + 1) #[.int .u64 Xb, .int .u64 (dg0 (Yb)), .int .u64 (dg1 (Yb)), .int .u64 (dg2 (Yb)), .int .u64 (dg3 (Yb)), .int .u64 Mb] 33 := Blk.below Bv1 hb1 Bv1.size
  have R1 : Blk w1 (w.heap.size + 1 + 1) #[.int .u64 0, .int .u64 0, .int .u64 0, .int .u64 0, .int .u64 0, .int .u64 0] 33 := Blk.below Rv1 hb1 Rv1.size
  have g1 : Below w.heap.size w w1 := gv1.trans (hb1.mono gv1.size)
  have hz1 : w.heap.size ≤ w1.heap.size := g1.size
  clear hb1 gv1 Av1 qA1 Bv1 qB1 Rv1 qR1
  replace cA := A1.cell
  replace fA := A1.frozen
  replace zA := A1.size
  replace cB := B1.cell
  replace fB := B1.frozen
  replace zB := B1.size
  replace cR := R1.cell
  replace fR := R1.frozen
  replace zR := R1.size
  go_wp2
  refine bp_forget (fun v => Below w.heap.size w v ∧ Blk v (w.heap.size + 1 + 1) #[.int .u64 Xb, .int .u64 (dg0 (Yb)), .int .u64 (dg1 (Yb)), .int .u64 (dg2 (Yb)), .int .u64 (dg3 (Yb)), .int .u64 Mb] 33) ⟨by (repeat' (first | (with_reducible (first | exact Below.refl _ _ | assumption | refine below_drewN ?_ _ | refine Below.drew ?_ | refine Below.alloc ?_ ?_ _ | refine Below.setCell ?_ ?_ _)) | go_size)), by (repeat' (first | (with_reducible (first | assumption | exact Blk.alloc_new _ _ _ (by first | rfl | (simp; done) | omega) | apply Blk.drewN | apply Blk.drew | apply Blk.alloc_old | apply Blk.set_same | apply Blk.set_other)) | (show (_ : Nat) ≠ _; first | omega | (simp; done) | (simp; omega)) | ((simp only [List.setIfInBounds_toArray, List.set_cons_succ, List.set_cons_zero]); (with_reducible exact rfl)) | (with_reducible exact rfl) | (show (_ : Array Value) = _; exact rfl)))⟩ ?_
  rintro v ⟨gv, Bv⟩
  have cv := Bv.cell
  refine bodyPost_ret (v := rlv Xb Yb Mb) (by simp [results, Try.results57, go_sem, cv]) rfl ⟨rfl, gv⟩
theorem rlow_any (Xa Ya Ma Xb Yb Mb X Y M : Int) (w : World) (hXa : 0 ≤ Xa ∧ Xa ≤ 18446744073709551615) (hYa : In128 Ya) (hMa : 0 ≤ Ma ∧ Ma ≤ 18446744073709551615) (hXb : 0 ≤ Xb ∧ Xb ≤ 18446744073709551615) (hYb : In128 Yb) (hMb : 0 ≤ Mb ∧ Mb ≤ 18446744073709551615) (hr : (lowB Xa Ya Ma Xb Yb Mb = true ∧ X = Xb ∧ Y = Yb ∧ M = Mb) ∨ (lowB Xa Ya Ma Xb Yb Mb = false ∧ X = Xa ∧ Y = Ya ∧ M = Ma)) :
    Calls Try.prog 57 #[rlv Xa Ya Ma, rlv Xb Yb Mb] w fun e w' => e = .returned (rlv X Y M) ∧ Below w.heap.size w w' := by
  have i1 := la_in (X := Xa) (M := Ma) (x := max Xa Xb) hYa
  have i2 := la_in (X := Xb) (M := Mb) (x := max Xa Xb) hYb
  unfold lowB at hr
  by_cases hg : Xa < Xb
  · rw [show max Xa Xb = Xb by omega] at *
    rcases hr with ⟨h, rfl, rfl, rfl⟩ | ⟨h, rfl, rfl, rfl⟩
    · exact rlow_bb _ _ _ _ _ _ _ _ w hXa hYa hMa hXb hYb hMb rfl rfl i1 i2 (by omega) h
    · exact rlow_ba _ _ _ _ _ _ _ _ w hXa hYa hMa hXb hYb hMb rfl rfl i1 i2 (by omega) h
  · rw [show max Xa Xb = Xa by omega] at *
    rcases hr with ⟨h, rfl, rfl, rfl⟩ | ⟨h, rfl, rfl, rfl⟩
    · exact rlow_ab _ _ _ _ _ _ _ _ w hXa hYa hMa hXb hYb hMb rfl rfl i1 i2 (by omega) h
    · exact rlow_aa _ _ _ _ _ _ _ _ w hXa hYa hMa hXb hYb hMb rfl rfl i1 i2 (by omega) h
end Go.Proofs.Ytaaoadbcgnedkaa
