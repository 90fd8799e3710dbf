/-
  The walks of the reference's Mul, twice and bit. Conditions: arguments in range.
-/
import Derived.Test.YtaaoadbcgnedkaaRef
namespace Go.Proofs.Ytaaoadbcgnedkaa
open Go.RowKit

theorem rPlus_of {va vb : Value} {a b c : Int} (h : va = nv a) (h' : vb = nv b) (w : World) (ha : In128 a) (hb : In128 b) (hs : a + b = c) (hc : In128 c) :
    Calls Try.prog 40 #[va, vb] w fun e w' => e = .returned (nv c) ∧ Below w.heap.size w w' := by
  subst h h' hs
  have := rPlus a b w ha hb
  rw [m128_of hc] at this; exact this
set_option maxHeartbeats 2000000 in
theorem rMul (x y : Int) (w : World) (hx : 0 ≤ x) (hx' : x ≤ 18446744073709551615) (hy : 0 ≤ y) (hy' : y ≤ 18446744073709551615) :
    Calls Try.prog 47 #[.int .u64 x, .int .u64 y] w fun e w' => e = .returned (nv (x * y)) ∧ Below w.heap.size w w' := by
  have r0 := dg0_rng x; have r1 := dg1_rng x; have r2 := dg2_rng x; have r3 := dg3_rng x
  have s0 := dg0_rng y; have s1 := dg1_rng y; have s2 := dg2_rng y; have s3 := dg3_rng y
  have p1 := mul_rng _ _ r0 s0; have p2 := mul_rng _ _ r0 s1; have p3 := mul_rng _ _ r1 s0; have p4 := mul_rng _ _ r1 s1
  have p0 := mul_rng64 x y hx hx' hy hy'
  have hp : dg0 x * dg0 y + dg0 x * dg1 y * 4294967296 + dg1 x * dg0 y * 4294967296 + dg1 x * dg1 y * 18446744073709551616 = x * y := by
    have e1 : dg1 x = x / 4294967296 := by unfold dg1; omega
    have e2 : dg1 y = y / 4294967296 := by unfold dg1; omega
    rw [mul_parts x y, e1, e2]; unfold dg0; omega
  have Hp := hide hp; clear hp
  go_enter Try.func47, Try.ntmps47
  go_wp2_with fail
  refine (rOf x _ hx hx').mono ?_
  rintro e w1 ⟨rfl, hb1⟩
  have A1 : Blk w1 (w.heap.size) #[.int .u64 0, .int .u64 0, .int .u64 0, .int .u64 0] 31 := Blk.below (by (repeat' (first | (with_reducible (first | assumption | exact Blk.alloc_new _ _ _ (by first | rfl | (simp; done) | omega) | apply Blk.drewN | apply Blk.drew | apply Blk.alloc_old | apply Blk.set_same | apply Blk.set_other)) | (show (_ : Nat) ≠ _; first | omega | (simp; done) | (simp; omega)) | ((simp only [List.setIfInBounds_toArray, List.set_cons_succ, List.set_cons_zero]); (with_reducible exact rfl)) | (with_reducible exact rfl) | (show (_ : Array Value) = _; exact rfl)))) hb1 (by first | (simp; done) | omega | (simp; omega))
  have g1 : Below w.heap.size w w1 := by refine Below.trans ?_ (hb1.mono ?_) <;> (repeat' (first | (with_reducible (first | exact Below.refl _ _ | assumption | refine below_drewN ?_ _ | refine Below.drew ?_ | refine Below.alloc ?_ ?_ _ | refine Below.setCell ?_ ?_ _)) | go_size))
  have hz1 := hb1.size
  (try simp at hz1)
  clear hb1
  have cA := A1.cell
  have fA := A1.frozen
  have zA := A1.size
  go_wp2_with fail
  refine (rOf y _ hy hy').mono ?_
  rintro e w2 ⟨rfl, hb2⟩
  have A2 : Blk w2 (w.heap.size) #[.int .u64 0, .int .u64 0, .int .u64 0, .int .u64 0] 31 := Blk.below (by (repeat' (first | (with_reducible (first | assumption | exact Blk.alloc_new _ _ _ (by first | rfl | (simp; done) | omega) | apply Blk.drewN | apply Blk.drew | apply Blk.alloc_old | apply Blk.set_same | apply Blk.set_other)) | (show (_ : Nat) ≠ _; first | omega | (simp; done) | (simp; omega)) | ((simp only [List.setIfInBounds_toArray, List.set_cons_succ, List.set_cons_zero]); (with_reducible exact rfl)) | (with_reducible exact rfl) | (show (_ : Array Value) = _; exact rfl)))) hb2 (by first | (simp; done) | omega | (simp; omega))
  have B2 : Blk w2 (w1.heap.size) #[.int .u64 (dg0 (x)), .int .u64 (dg1 (x)), .int .u64 (dg2 (x)), .int .u64 (dg3 (x))] 31 := Blk.below (by (repeat' (first | (with_reducible (first | assumption | exact Blk.alloc_new _ _ _ (by first | rfl | (simp; done) | omega) | apply Blk.drewN | apply Blk.drew | apply Blk.alloc_old | apply Blk.set_same | apply Blk.set_other)) | (show (_ : Nat) ≠ _; first | omega | (simp; done) | (simp; omega)) | ((simp only [List.setIfInBounds_toArray, List.set_cons_succ, List.set_cons_zero]); (with_reducible exact rfl)) | (with_reducible exact rfl) | (show (_ : Array Value) = _; exact rfl)))) hb2 (by first | (simp; done) | omega | (simp; omega))
  have g2 : Below w.heap.size w w2 := by refine Below.trans ?_ (hb2.mono ?_) <;> (repeat' (first | (with_reducible (first | exact Below.refl _ _ | assumption | refine below_drewN ?_ _ | refine Below.drew ?_ | refine Below.alloc ?_ ?_ _ | refine Below.setCell ?_ ?_ _)) | go_size))
  have hz2 := hb2.size
  (try simp at hz2)
  clear hb2 cA fA zA
  have cA := A2.cell
  have fA := A2.frozen
  have zA := A2.size
  have cB := B2.cell
  have fB := B2.frozen
  have zB := B2.size
  have l1 : w.heap.size < w1.heap.size := by omega
  have l2 : w1.heap.size < w2.heap.size := by omega
  go_wp2
  refine wp_loop_rounds 3 ?_
  rw [rounds_succ]
  go_wp2
  refine wp_loop_rounds 3 ?_
  refine rounds_forget (fun v => Below w.heap.size w v ∧ Blk v (w.heap.size) #[.int .u64 0, .int .u64 0, .int .u64 0, .int .u64 0] 31 ∧ Blk v (w1.heap.size) #[.int .u64 (dg0 (x)), .int .u64 (dg1 (x)), .int .u64 (dg2 (x)), .int .u64 (dg3 (x))] 31 ∧ Blk v (w2.heap.size) #[.int .u64 (dg0 (y)), .int .u64 (dg1 (y)), .int .u64 (dg2 (y)), .int .u64 (dg3 (y))] 31 ∧ Blk v (w2.heap.size + 1) #[.int .u64 0, .int .u64 0, .int .u64 0, .int .u64 0] 31) ⟨by (repeat' (first | (with_reducible (first | exact Below.refl _ _ | assumption | refine below_drewN ?_ _ | refine Below.drew ?_ | refine Below.alloc ?_ ?_ _ | refine Below.setCell ?_ ?_ _)) | go_size)), by (repeat' (first | (with_reducible (first | assumption | exact Blk.alloc_new _ _ _ (by first | rfl | (simp; done) | omega) | apply Blk.drewN | apply Blk.drew | apply Blk.alloc_old | apply Blk.set_same | apply Blk.set_other)) | (show (_ : Nat) ≠ _; first | omega | (simp; done) | (simp; omega)) | ((simp only [List.setIfInBounds_toArray, List.set_cons_succ, List.set_cons_zero]); (with_reducible exact rfl)) | (with_reducible exact rfl) | (show (_ : Array Value) = _; exact rfl))), by (repeat' (first | (with_reducible (first | assumption | exact Blk.alloc_new _ _ _ (by first | rfl | (simp; done) | omega) | apply Blk.drewN | apply Blk.drew | apply Blk.alloc_old | apply Blk.set_same | apply Blk.set_other)) | (show (_ : Nat) ≠ _; first | omega | (simp; done) | (simp; omega)) | ((simp only [List.setIfInBounds_toArray, List.set_cons_succ, List.set_cons_zero]); (with_reducible exact rfl)) | (with_reducible exact rfl) | (show (_ : Array Value) = _; exact rfl))), by (repeat' (first | (with_reducible (first | assumption | exact Blk.alloc_new _ _ _ (by first | rfl | (simp; done) | omega) | apply Blk.drewN | apply Blk.drew | apply Blk.alloc_old | apply Blk.set_same | apply Blk.set_other)) | (show (_ : Nat) ≠ _; first | omega | (simp; done) | (simp; omega)) | ((simp only [List.setIfInBounds_toArray, List.set_cons_succ, List.set_cons_zero]); (with_reducible exact rfl)) | (with_reducible exact rfl) | (show (_ : Array Value) = _; exact rfl))), by (repeat' (first | (with_reducible (first | assumption | exact Blk.alloc_new _ _ _ (by first | rfl | (simp; done) | omega) | apply Blk.drewN | apply Blk.drew | apply Blk.alloc_old | apply Blk.set_same | apply Blk.set_other)) | (show (_ : Nat) ≠ _; first | omega | (simp; done) | (simp; omega)) | ((simp only [List.setIfInBounds_toArray, List.set_cons_succ, List.set_cons_zero]); (with_reducible exact rfl)) | (with_reducible exact rfl) | (show (_ : Array Value) = _; exact rfl)))⟩ ?_
  clear cA fA zA cB fB zB
  rintro w3 ⟨g3, A3, B3, C3, D3⟩
  have cA := A3.cell
  have fA := A3.frozen
  have zA := A3.size
  have cB := B3.cell
  have fB := B3.frozen
  have zB := B3.size
  have cC := C3.cell
  have fC := C3.frozen
  have zC := C3.size
  have cD := D3.cell
  have fD := D3.frozen
  have zD := D3.size
  rw [rounds_succ]
  go_wp2
  go_quiet (fail)
  go_wp2_with fail
  refine (rPlus_of (a := 0) (b := dg0 x * dg0 y) (c := dg0 x * dg0 y) (nv_eq (by omega) (by omega) (by omega) (by omega) (by omega)) (nv_eq (by omega) (by omega) (by omega) (by omega) (by omega)) _ (by unfold In128; omega) (by unfold In128; omega) (by omega) (by unfold In128; omega)).mono ?_
  rintro e u3 ⟨rfl, hb3⟩
  have A3' : Blk u3 (w.heap.size) #[.int .u64 0, .int .u64 0, .int .u64 0, .int .u64 0] 31 := Blk.below (by (repeat' (first | (with_reducible (first | assumption | exact Blk.alloc_new _ _ _ (by first | rfl | (simp; done) | omega) | apply Blk.drewN | apply Blk.drew | apply Blk.alloc_old | apply Blk.set_same | apply Blk.set_other)) | (show (_ : Nat) ≠ _; first | omega | (simp; done) | (simp; omega)) | ((simp only [List.setIfInBounds_toArray, List.set_cons_succ, List.set_cons_zero]); (with_reducible exact rfl)) | (with_reducible exact rfl) | (show (_ : Array Value) = _; exact rfl)))) hb3 (by first | (simp; done) | omega | (simp; omega))
  have B3' : Blk u3 (w1.heap.size) #[.int .u64 (dg0 (x)), .int .u64 (dg1 (x)), .int .u64 (dg2 (x)), .int .u64 (dg3 (x))] 31 := Blk.below (by (repeat' (first | (with_reducible (first | assumption | exact Blk.alloc_new _ _ _ (by first | rfl | (simp; done) | omega) | apply Blk.drewN | apply Blk.drew | apply Blk.alloc_old | apply Blk.set_same | apply Blk.set_other)) | (show (_ : Nat) ≠ _; first | omega | (simp; done) | (simp; omega)) | ((simp only [List.setIfInBounds_toArray, List.set_cons_succ, List.set_cons_zero]); (with_reducible exact rfl)) | (with_reducible exact rfl) | (show (_ : Array Value) = _; exact rfl)))) hb3 (by first | (simp; done) | omega | (simp; omega))
  have C3' : Blk u3 (w2.heap.size) #[.int .u64 (dg0 (y)), .int .u64 (dg1 (y)), .int .u64 (dg2 (y)), .int .u64 (dg3 (y))] 31 := Blk.below (by (repeat' (first | (with_reducible (first | assumption | exact Blk.alloc_new _ _ _ (by first | rfl | (simp; done) | omega) | apply Blk.drewN | apply Blk.drew | apply Blk.alloc_old | apply Blk.set_same | apply Blk.set_other)) | (show (_ : Nat) ≠ _; first | omega | (simp; done) | (simp; omega)) | ((simp only [List.setIfInBounds_toArray, List.set_cons_succ, List.set_cons_zero]); (with_reducible exact rfl)) | (with_reducible exact rfl) | (show (_ : Array Value) = _; exact rfl)))) hb3 (by first | (simp; done) | omega | (simp; omega))
  have D3' : Blk u3 (w2.heap.size + 1) #[.int .u64 0, .int .u64 0, .int .u64 0, .int .u64 0] 31 := Blk.below (by (repeat' (first | (with_reducible (first | assumption | exact Blk.alloc_new _ _ _ (by first | rfl | (simp; done) | omega) | apply Blk.drewN | apply Blk.drew | apply Blk.alloc_old | apply Blk.set_same | apply Blk.set_other)) | (show (_ : Nat) ≠ _; first | omega | (simp; done) | (simp; omega)) | ((simp only [List.setIfInBounds_toArray, List.set_cons_succ, List.set_cons_zero]); (with_reducible exact rfl)) | (with_reducible exact rfl) | (show (_ : Array Value) = _; exact rfl)))) hb3 (by first | (simp; done) | omega | (simp; omega))
  have g3' : Below w.heap.size w u3 := by refine Below.trans ?_ (hb3.mono ?_) <;> (repeat' (first | (with_reducible (first | exact Below.refl _ _ | assumption | refine below_drewN ?_ _ | refine Below.drew ?_ | refine Below.alloc ?_ ?_ _ | refine Below.setCell ?_ ?_ _)) | go_size))
  have hz3' := hb3.size
  (try simp at hz3')
  clear hb3 cA fA zA cB fB zB cC fC zC cD fD zD
  have cA := A3'.cell
  have fA := A3'.frozen
  have zA := A3'.size
  have cB := B3'.cell
  have fB := B3'.frozen
  have zB := B3'.size
  have cC := C3'.cell
  have fC := C3'.frozen
  have zC := C3'.size
  have cD := D3'.cell
  have fD := D3'.frozen
  have zD := D3'.size
  go_wp2

  refine rounds_forget (fun v => Below w.heap.size w v ∧ Blk v (w.heap.size) #[.int .u64 0, .int .u64 0, .int .u64 0, .int .u64 0] 31 ∧ Blk v (w1.heap.size) #[.int .u64 (dg0 (x)), .int .u64 (dg1 (x)), .int .u64 (dg2 (x)), .int .u64 (dg3 (x))] 31 ∧ Blk v (w2.heap.size) #[.int .u64 (dg0 (y)), .int .u64 (dg1 (y)), .int .u64 (dg2 (y)), .int .u64 (dg3 (y))] 31 ∧ Blk v (w2.heap.size + 1) #[.int .u64 (dg0 (dg0 x * dg0 y)), .int .u64 (dg1 (dg0 x * dg0 y)), .int .u64 (dg2 (dg0 x * dg0 y)), .int .u64 (dg3 (dg0 x * dg0 y))] 31) ⟨by (repeat' (first | (with_reducible (first | exact Below.refl _ _ | assumption | refine below_drewN ?_ _ | refine Below.drew ?_ | refine Below.alloc ?_ ?_ _ | refine Below.setCell ?_ ?_ _)) | go_size)), by (repeat' (first | (with_reducible (first | assumption | exact Blk.alloc_new _ _ _ (by first | rfl | (simp; done) | omega) | apply Blk.drewN | apply Blk.drew | apply Blk.alloc_old | apply Blk.set_same | apply Blk.set_other)) | (show (_ : Nat) ≠ _; first | omega | (simp; done) | (simp; omega)) | ((simp only [List.setIfInBounds_toArray, List.set_cons_succ, List.set_cons_zero]); (with_reducible exact rfl)) | (with_reducible exact rfl) | (show (_ : Array Value) = _; exact rfl))), by (repeat' (first | (with_reducible (first | assumption | exact Blk.alloc_new _ _ _ (by first | rfl | (simp; done) | omega) | apply Blk.drewN | apply Blk.drew | apply Blk.alloc_old | apply Blk.set_same | apply Blk.set_other)) | (show (_ : Nat) ≠ _; first | omega | (simp; done) | (simp; omega)) | ((simp only [List.setIfInBounds_toArray, List.set_cons_succ, List.set_cons_zero]); (with_reducible exact rfl)) | (with_reducible exact rfl) | (show (_ : Array Value) = _; exact rfl))), by (repeat' (first | (with_reducible (first | assumption | exact Blk.alloc_new _ _ _ (by first | rfl | (simp; done) | omega) | apply Blk.drewN | apply Blk.drew | apply Blk.alloc_old | apply Blk.set_same | apply Blk.set_other)) | (show (_ : Nat) ≠ _; first | omega | (simp; done) | (simp; omega)) | ((simp only [List.setIfInBounds_toArray, List.set_cons_succ, List.set_cons_zero]); (with_reducible exact rfl)) | (with_reducible exact rfl) | (show (_ : Array Value) = _; exact rfl))), by (repeat' (first | (with_reducible (first | assumption | exact Blk.alloc_new _ _ _ (by first | rfl | (simp; done) | omega) | apply Blk.drewN | apply Blk.drew | apply Blk.alloc_old | apply Blk.set_same | apply Blk.set_other)) | (show (_ : Nat) ≠ _; first | omega | (simp; done) | (simp; omega)) | ((simp only [List.setIfInBounds_toArray, List.set_cons_succ, List.set_cons_zero]); (with_reducible exact rfl)) | (with_reducible exact rfl) | (show (_ : Array Value) = _; exact rfl)))⟩ ?_
  clear cA fA zA cB fB zB cC fC zC cD fD zD
  rintro w4 ⟨g4, A4, B4, C4, D4⟩
  have cA := A4.cell
  have fA := A4.frozen
  have zA := A4.size
  have cB := B4.cell
  have fB := B4.frozen
  have zB := B4.size
  have cC := C4.cell
  have fC := C4.frozen
  have zC := C4.size
  have cD := D4.cell
  have fD := D4.frozen
  have zD := D4.size
  rw [rounds_succ]
  go_wp2
  go_quiet (fail)
  go_wp2_with fail
  refine (rPlus_of (a := dg0 x * dg0 y) (b := dg0 x * dg1 y * 4294967296) (c := dg0 x * dg0 y + dg0 x * dg1 y * 4294967296) rfl (nv_eq (by omega) (by omega) (by omega) (by omega) (by omega)) _ (by unfold In128; omega) (by unfold In128; omega) (by omega) (by unfold In128; omega)).mono ?_
  rintro e u4 ⟨rfl, hb4⟩
  have A4' : Blk u4 (w.heap.size) #[.int .u64 0, .int .u64 0, .int .u64 0, .int .u64 0] 31 := Blk.below (by (repeat' (first | (with_reducible (first | assumption | exact Blk.alloc_new _ _ _ (by first | rfl | (simp; done) | omega) | apply Blk.drewN | apply Blk.drew | apply Blk.alloc_old | apply Blk.set_same | apply Blk.set_other)) | (show (_ : Nat) ≠ _; first | omega | (simp; done) | (simp; omega)) | ((simp only [List.setIfInBounds_toArray, List.set_cons_succ, List.set_cons_zero]); (with_reducible exact rfl)) | (with_reducible exact rfl) | (show (_ : Array Value) = _; exact rfl)))) hb4 (by first | (simp; done) | omega | (simp; omega))
  have B4' : Blk u4 (w1.heap.size) #[.int .u64 (dg0 (x)), .int .u64 (dg1 (x)), .int .u64 (dg2 (x)), .int .u64 (dg3 (x))] 31 := Blk.below (by (repeat' (first | (with_reducible (first | assumption | exact Blk.alloc_new _ _ _ (by first | rfl | (simp; done) | omega) | apply Blk.drewN | apply Blk.drew | apply Blk.alloc_old | apply Blk.set_same | apply Blk.set_other)) | (show (_ : Nat) ≠ _; first | omega | (simp; done) | (simp; omega)) | ((simp only [List.setIfInBounds_toArray, List.set_cons_succ, List.set_cons_zero]); (with_reducible exact rfl)) | (with_reducible exact rfl) | (show (_ : Array Value) = _; exact rfl)))) hb4 (by first | (simp; done) | omega | (simp; omega))
  have C4' : Blk u4 (w2.heap.size) #[.int .u64 (dg0 (y)), .int .u64 (dg1 (y)), .int .u64 (dg2 (y)), .int .u64 (dg3 (y))] 31 := Blk.below (by (repeat' (first | (with_reducible (first | assumption | exact Blk.alloc_new _ _ _ (by first | rfl | (simp; done) | omega) | apply Blk.drewN | apply Blk.drew | apply Blk.alloc_old | apply Blk.set_same | apply Blk.set_other)) | (show (_ : Nat) ≠ _; first | omega | (simp; done) | (simp; omega)) | ((simp only [List.setIfInBounds_toArray, List.set_cons_succ, List.set_cons_zero]); (with_reducible exact rfl)) | (with_reducible exact rfl) | (show (_ : Array Value) = _; exact rfl)))) hb4 (by first | (simp; done) | omega | (simp; omega))
  have D4' : Blk u4 (w2.heap.size + 1) #[.int .u64 (dg0 (dg0 x * dg0 y)), .int .u64 (dg1 (dg0 x * dg0 y)), .int .u64 (dg2 (dg0 x * dg0 y)), .int .u64 (dg3 (dg0 x * dg0 y))] 31 := Blk.below (by (repeat' (first | (with_reducible (first | assumption | exact Blk.alloc_new _ _ _ (by first | rfl | (simp; done) | omega) | apply Blk.drewN | apply Blk.drew | apply Blk.alloc_old | apply Blk.set_same | apply Blk.set_other)) | (show (_ : Nat) ≠ _; first | omega | (simp; done) | (simp; omega)) | ((simp only [List.setIfInBounds_toArray, List.set_cons_succ, List.set_cons_zero]); (with_reducible exact rfl)) | (with_reducible exact rfl) | (show (_ : Array Value) = _; exact rfl)))) hb4 (by first | (simp; done) | omega | (simp; omega))
  have g4' : Below w.heap.size w u4 := by refine Below.trans ?_ (hb4.mono ?_) <;> (repeat' (first | (with_reducible (first | exact Below.refl _ _ | assumption | refine below_drewN ?_ _ | refine Below.drew ?_ | refine Below.alloc ?_ ?_ _ | refine Below.setCell ?_ ?_ _)) | go_size))
  have hz4' := hb4.size
  (try simp at hz4')
  clear hb4 cA fA zA cB fB zB cC fC zC cD fD zD
  have cA := A4'.cell
  have fA := A4'.frozen
  have zA := A4'.size
  have cB := B4'.cell
  have fB := B4'.frozen
  have zB := B4'.size
  have cC := C4'.cell
  have fC := C4'.frozen
  have zC := C4'.size
  have cD := D4'.cell
  have fD := D4'.frozen
  have zD := D4'.size
  go_wp2
  rw [rounds_succ]
  go_wp2
  rw [rounds_succ]
  go_wp2
  refine wp_loop_rounds 3 ?_
  refine rounds_forget (fun v => Below w.heap.size w v ∧ Blk v (w.heap.size) #[.int .u64 0, .int .u64 0, .int .u64 0, .int .u64 0] 31 ∧ Blk v (w1.heap.size) #[.int .u64 (dg0 (x)), .int .u64 (dg1 (x)), .int .u64 (dg2 (x)), .int .u64 (dg3 (x))] 31 ∧ Blk v (w2.heap.size) #[.int .u64 (dg0 (y)), .int .u64 (dg1 (y)), .int .u64 (dg2 (y)), .int .u64 (dg3 (y))] 31 ∧ Blk v (w2.heap.size + 1) #[.int .u64 (dg0 (dg0 x * dg0 y + dg0 x * dg1 y * 4294967296)), .int .u64 (dg1 (dg0 x * dg0 y + dg0 x * dg1 y * 4294967296)), .int .u64 (dg2 (dg0 x * dg0 y + dg0 x * dg1 y * 4294967296)), .int .u64 (dg3 (dg0 x * dg0 y + dg0 x * dg1 y * 4294967296))] 31) ⟨by (repeat' (first | (with_reducible (first | exact Below.refl _ _ | assumption | refine below_drewN ?_ _ | refine Below.drew ?_ | refine Below.alloc ?_ ?_ _ | refine Below.setCell ?_ ?_ _)) | go_size)), by (repeat' (first | (with_reducible (first | assumption | exact Blk.alloc_new _ _ _ (by first | rfl | (simp; done) | omega) | apply Blk.drewN | apply Blk.drew | apply Blk.alloc_old | apply Blk.set_same | apply Blk.set_other)) | (show (_ : Nat) ≠ _; first | omega | (simp; done) | (simp; omega)) | ((simp only [List.setIfInBounds_toArray, List.set_cons_succ, List.set_cons_zero]); (with_reducible exact rfl)) | (with_reducible exact rfl) | (show (_ : Array Value) = _; exact rfl))), by (repeat' (first | (with_reducible (first | assumption | exact Blk.alloc_new _ _ _ (by first | rfl | (simp; done) | omega) | apply Blk.drewN | apply Blk.drew | apply Blk.alloc_old | apply Blk.set_same | apply Blk.set_other)) | (show (_ : Nat) ≠ _; first | omega | (simp; done) | (simp; omega)) | ((simp only [List.setIfInBounds_toArray, List.set_cons_succ, List.set_cons_zero]); (with_reducible exact rfl)) | (with_reducible exact rfl) | (show (_ : Array Value) = _; exact rfl))), by (repeat' (first | (with_reducible (first | assumption | exact Blk.alloc_new _ _ _ (by first | rfl | (simp; done) | omega) | apply Blk.drewN | apply Blk.drew | apply Blk.alloc_old | apply Blk.set_same | apply Blk.set_other)) | (show (_ : Nat) ≠ _; first | omega | (simp; done) | (simp; omega)) | ((simp only [List.setIfInBounds_toArray, List.set_cons_succ, List.set_cons_zero]); (with_reducible exact rfl)) | (with_reducible exact rfl) | (show (_ : Array Value) = _; exact rfl))), by (repeat' (first | (with_reducible (first | assumption | exact Blk.alloc_new _ _ _ (by first | rfl | (simp; done) | omega) | apply Blk.drewN | apply Blk.drew | apply Blk.alloc_old | apply Blk.set_same | apply Blk.set_other)) | (show (_ : Nat) ≠ _; first | omega | (simp; done) | (simp; omega)) | ((simp only [List.setIfInBounds_toArray, List.set_cons_succ, List.set_cons_zero]); (with_reducible exact rfl)) | (with_reducible exact rfl) | (show (_ : Array Value) = _; exact rfl)))⟩ ?_
  clear cA fA zA cB fB zB cC fC zC cD fD zD
  rintro w5 ⟨g5, A5, B5, C5, D5⟩
  have cA := A5.cell
  have fA := A5.frozen
  have zA := A5.size
  have cB := B5.cell
  have fB := B5.frozen
  have zB := B5.size
  have cC := C5.cell
  have fC := C5.frozen
  have zC := C5.size
  have cD := D5.cell
  have fD := D5.frozen
  have zD := D5.size
  rw [rounds_succ]
  go_wp2
  go_quiet (fail)
  go_wp2_with fail
  refine (rPlus_of (a := dg0 x * dg0 y + dg0 x * dg1 y * 4294967296) (b := dg1 x * dg0 y * 4294967296) (c := dg0 x * dg0 y + dg0 x * dg1 y * 4294967296 + dg1 x * dg0 y * 4294967296) rfl (nv_eq (by omega) (by omega) (by omega) (by omega) (by omega)) _ (by unfold In128; omega) (by unfold In128; omega) (by omega) (by unfold In128; omega)).mono ?_
  rintro e u5 ⟨rfl, hb5⟩
  have A5' : Blk u5 (w.heap.size) #[.int .u64 0, .int .u64 0, .int .u64 0, .int .u64 0] 31 := Blk.below (by (repeat' (first | (with_reducible (first | assumption | exact Blk.alloc_new _ _ _ (by first | rfl | (simp; done) | omega) | apply Blk.drewN | apply Blk.drew | apply Blk.alloc_old | apply Blk.set_same | apply Blk.set_other)) | (show (_ : Nat) ≠ _; first | omega | (simp; done) | (simp; omega)) | ((simp only [List.setIfInBounds_toArray, List.set_cons_succ, List.set_cons_zero]); (with_reducible exact rfl)) | (with_reducible exact rfl) | (show (_ : Array Value) = _; exact rfl)))) hb5 (by first | (simp; done) | omega | (simp; omega))
  have B5' : Blk u5 (w1.heap.size) #[.int .u64 (dg0 (x)), .int .u64 (dg1 (x)), .int .u64 (dg2 (x)), .int .u64 (dg3 (x))] 31 := Blk.below (by (repeat' (first | (with_reducible (first | assumption | exact Blk.alloc_new _ _ _ (by first | rfl | (simp; done) | omega) | apply Blk.drewN | apply Blk.drew | apply Blk.alloc_old | apply Blk.set_same | apply Blk.set_other)) | (show (_ : Nat) ≠ _; first | omega | (simp; done) | (simp; omega)) | ((simp only [List.setIfInBounds_toArray, List.set_cons_succ, List.set_cons_zero]); (with_reducible exact rfl)) | (with_reducible exact rfl) | (show (_ : Array Value) = _; exact rfl)))) hb5 (by first | (simp; done) | omega | (simp; omega))
  have C5' : Blk u5 (w2.heap.size) #[.int .u64 (dg0 (y)), .int .u64 (dg1 (y)), .int .u64 (dg2 (y)), .int .u64 (dg3 (y))] 31 := Blk.below (by (repeat' (first | (with_reducible (first | assumption | exact Blk.alloc_new _ _ _ (by first | rfl | (simp; done) | omega) | apply Blk.drewN | apply Blk.drew | apply Blk.alloc_old | apply Blk.set_same | apply Blk.set_other)) | (show (_ : Nat) ≠ _; first | omega | (simp; done) | (simp; omega)) | ((simp only [List.setIfInBounds_toArray, List.set_cons_succ, List.set_cons_zero]); (with_reducible exact rfl)) | (with_reducible exact rfl) | (show (_ : Array Value) = _; exact rfl)))) hb5 (by first | (simp; done) | omega | (simp; omega))
  have D5' : Blk u5 (w2.heap.size + 1) #[.int .u64 (dg0 (dg0 x * dg0 y + dg0 x * dg1 y * 4294967296)), .int .u64 (dg1 (dg0 x * dg0 y + dg0 x * dg1 y * 4294967296)), .int .u64 (dg2 (dg0 x * dg0 y + dg0 x * dg1 y * 4294967296)), .int .u64 (dg3 (dg0 x * dg0 y + dg0 x * dg1 y * 4294967296))] 31 := Blk.below (by (repeat' (first | (with_reducible (first | assumption | exact Blk.alloc_new _ _ _ (by first | rfl | (simp; done) | omega) | apply Blk.drewN | apply Blk.drew | apply Blk.alloc_old | apply Blk.set_same | apply Blk.set_other)) | (show (_ : Nat) ≠ _; first | omega | (simp; done) | (simp; omega)) | ((simp only [List.setIfInBounds_toArray, List.set_cons_succ, List.set_cons_zero]); (with_reducible exact rfl)) | (with_reducible exact rfl) | (show (_ : Array Value) = _; exact rfl)))) hb5 (by first | (simp; done) | omega | (simp; omega))
  have g5' : Below w.heap.size w u5 := by refine Below.trans ?_ (hb5.mono ?_) <;> (repeat' (first | (with_reducible (first | exact Below.refl _ _ | assumption | refine below_drewN ?_ _ | refine Below.drew ?_ | refine Below.alloc ?_ ?_ _ | refine Below.setCell ?_ ?_ _)) | go_size))
  have hz5' := hb5.size
  (try simp at hz5')
  clear hb5 cA fA zA cB fB zB cC fC zC cD fD zD
  have cA := A5'.cell
  have fA := A5'.frozen
  have zA := A5'.size
  have cB := B5'.cell
  have fB := B5'.frozen
  have zB := B5'.size
  have cC := C5'.cell
  have fC := C5'.frozen
  have zC := C5'.size
  have cD := D5'.cell
  have fD := D5'.frozen
  have zD := D5'.size
  go_wp2

  refine rounds_forget (fun v => Below w.heap.size w v ∧ Blk v (w.heap.size) #[.int .u64 0, .int .u64 0, .int .u64 0, .int .u64 0] 31 ∧ Blk v (w1.heap.size) #[.int .u64 (dg0 (x)), .int .u64 (dg1 (x)), .int .u64 (dg2 (x)), .int .u64 (dg3 (x))] 31 ∧ Blk v (w2.heap.size) #[.int .u64 (dg0 (y)), .int .u64 (dg1 (y)), .int .u64 (dg2 (y)), .int .u64 (dg3 (y))] 31 ∧ Blk v (w2.heap.size + 1) #[.int .u64 (dg0 (dg0 x * dg0 y + dg0 x * dg1 y * 4294967296 + dg1 x * dg0 y * 4294967296)), .int .u64 (dg1 (dg0 x * dg0 y + dg0 x * dg1 y * 4294967296 + dg1 x * dg0 y * 4294967296)), .int .u64 (dg2 (dg0 x * dg0 y + dg0 x * dg1 y * 4294967296 + dg1 x * dg0 y * 4294967296)), .int .u64 (dg3 (dg0 x * dg0 y + dg0 x * dg1 y * 4294967296 + dg1 x * dg0 y * 4294967296))] 31) ⟨by (repeat' (first | (with_reducible (first | exact Below.refl _ _ | assumption | refine below_drewN ?_ _ | refine Below.drew ?_ | refine Below.alloc ?_ ?_ _ | refine Below.setCell ?_ ?_ _)) | go_size)), by (repeat' (first | (with_reducible (first | assumption | exact Blk.alloc_new _ _ _ (by first | rfl | (simp; done) | omega) | apply Blk.drewN | apply Blk.drew | apply Blk.alloc_old | apply Blk.set_same | apply Blk.set_other)) | (show (_ : Nat) ≠ _; first | omega | (simp; done) | (simp; omega)) | ((simp only [List.setIfInBounds_toArray, List.set_cons_succ, List.set_cons_zero]); (with_reducible exact rfl)) | (with_reducible exact rfl) | (show (_ : Array Value) = _; exact rfl))), by (repeat' (first | (with_reducible (first | assumption | exact Blk.alloc_new _ _ _ (by first | rfl | (simp; done) | omega) | apply Blk.drewN | apply Blk.drew | apply Blk.alloc_old | apply Blk.set_same | apply Blk.set_other)) | (show (_ : Nat) ≠ _; first | omega | (simp; done) | (simp; omega)) | ((simp only [List.setIfInBounds_toArray, List.set_cons_succ, List.set_cons_zero]); (with_reducible exact rfl)) | (with_reducible exact rfl) | (show (_ : Array Value) = _; exact rfl))), by (repeat' (first | (with_reducible (first | assumption | exact Blk.alloc_new _ _ _ (by first | rfl | (simp; done) | omega) | apply Blk.drewN | apply Blk.drew | apply Blk.alloc_old | apply Blk.set_same | apply Blk.set_other)) | (show (_ : Nat) ≠ _; first | omega | (simp; done) | (simp; omega)) | ((simp only [List.setIfInBounds_toArray, List.set_cons_succ, List.set_cons_zero]); (with_reducible exact rfl)) | (with_reducible exact rfl) | (show (_ : Array Value) = _; exact rfl))), by (repeat' (first | (with_reducible (first | assumption | exact Blk.alloc_new _ _ _ (by first | rfl | (simp; done) | omega) | apply Blk.drewN | apply Blk.drew | apply Blk.alloc_old | apply Blk.set_same | apply Blk.set_other)) | (show (_ : Nat) ≠ _; first | omega | (simp; done) | (simp; omega)) | ((simp only [List.setIfInBounds_toArray, List.set_cons_succ, List.set_cons_zero]); (with_reducible exact rfl)) | (with_reducible exact rfl) | (show (_ : Array Value) = _; exact rfl)))⟩ ?_
  clear cA fA zA cB fB zB cC fC zC cD fD zD
  rintro w6 ⟨g6, A6, B6, C6, D6⟩
  have cA := A6.cell
  have fA := A6.frozen
  have zA := A6.size
  have cB := B6.cell
  have fB := B6.frozen
  have zB := B6.size
  have cC := C6.cell
  have fC := C6.frozen
  have zC := C6.size
  have cD := D6.cell
  have fD := D6.frozen
  have zD := D6.size
  rw [rounds_succ]
  go_wp2
  go_quiet (fail)
  go_wp2_with fail
  refine (rPlus_of (a := dg0 x * dg0 y + dg0 x * dg1 y * 4294967296 + dg1 x * dg0 y * 4294967296) (b := dg1 x * dg1 y * 18446744073709551616) (c := x * y) rfl (nv_eq (by omega) (by omega) (by omega) (by omega) (by omega)) _ (by unfold In128; omega) (by unfold In128; omega) Hp.out (by unfold In128; omega)).mono ?_
  rintro e u6 ⟨rfl, hb6⟩
  have A6' : Blk u6 (w.heap.size) #[.int .u64 0, .int .u64 0, .int .u64 0, .int .u64 0] 31 := Blk.below (by (repeat' (first | (with_reducible (first | assumption | exact Blk.alloc_new _ _ _ (by first | rfl | (simp; done) | omega) | apply Blk.drewN | apply Blk.drew | apply Blk.alloc_old | apply Blk.set_same | apply Blk.set_other)) | (show (_ : Nat) ≠ _; first | omega | (simp; done) | (simp; omega)) | ((simp only [List.setIfInBounds_toArray, List.set_cons_succ, List.set_cons_zero]); (with_reducible exact rfl)) | (with_reducible exact rfl) | (show (_ : Array Value) = _; exact rfl)))) hb6 (by first | (simp; done) | omega | (simp; omega))
  have B6' : Blk u6 (w1.heap.size) #[.int .u64 (dg0 (x)), .int .u64 (dg1 (x)), .int .u64 (dg2 (x)), .int .u64 (dg3 (x))] 31 := Blk.below (by (repeat' (first | (with_reducible (first | assumption | exact Blk.alloc_new _ _ _ (by first | rfl | (simp; done) | omega) | apply Blk.drewN | apply Blk.drew | apply Blk.alloc_old | apply Blk.set_same | apply Blk.set_other)) | (show (_ : Nat) ≠ _; first | omega | (simp; done) | (simp; omega)) | ((simp only [List.setIfInBounds_toArray, List.set_cons_succ, List.set_cons_zero]); (with_reducible exact rfl)) | (with_reducible exact rfl) | (show (_ : Array Value) = _; exact rfl)))) hb6 (by first | (simp; done) | omega | (simp; omega))
  have C6' : Blk u6 (w2.heap.size) #[.int .u64 (dg0 (y)), .int .u64 (dg1 (y)), .int .u64 (dg2 (y)), .int .u64 (dg3 (y))] 31 := Blk.below (by (repeat' (first | (with_reducible (first | assumption | exact Blk.alloc_new _ _ _ (by first | rfl | (simp; done) | omega) | apply Blk.drewN | apply Blk.drew | apply Blk.alloc_old | apply Blk.set_same | apply Blk.set_other)) | (show (_ : Nat) ≠ _; first | omega | (simp; done) | (simp; omega)) | ((simp only [List.setIfInBounds_toArray, List.set_cons_succ, List.set_cons_zero]); (with_reducible exact rfl)) | (with_reducible exact rfl) | (show (_ : Array Value) = _; exact rfl)))) hb6 (by first | (simp; done) | omega | (simp; omega))
  have D6' : Blk u6 (w2.heap.size + 1) #[.int .u64 (dg0 (dg0 x * dg0 y + dg0 x * dg1 y * 4294967296 + dg1 x * dg0 y * 4294967296)), .int .u64 (dg1 (dg0 x * dg0 y + dg0 x * dg1 y * 4294967296 + dg1 x * dg0 y * 4294967296)), .int .u64 (dg2 (dg0 x * dg0 y + dg0 x * dg1 y * 4294967296 + dg1 x * dg0 y * 4294967296)), .int .u64 (dg3 (dg0 x * dg0 y + dg0 x * dg1 y * 4294967296 + dg1 x * dg0 y * 4294967296))] 31 := Blk.below (by (repeat' (first | (with_reducible (first | assumption | exact Blk.alloc_new _ _ _ (by first | rfl | (simp; done) | omega) | apply Blk.drewN | apply Blk.drew | apply Blk.alloc_old | apply Blk.set_same | apply Blk.set_other)) | (show (_ : Nat) ≠ _; first | omega | (simp; done) | (simp; omega)) | ((simp only [List.setIfInBounds_toArray, List.set_cons_succ, List.set_cons_zero]); (with_reducible exact rfl)) | (with_reducible exact rfl) | (show (_ : Array Value) = _; exact rfl)))) hb6 (by first | (simp; done) | omega | (simp; omega))
  have g6' : Below w.heap.size w u6 := by refine Below.trans ?_ (hb6.mono ?_) <;> (repeat' (first | (with_reducible (first | exact Below.refl _ _ | assumption | refine below_drewN ?_ _ | refine Below.drew ?_ | refine Below.alloc ?_ ?_ _ | refine Below.setCell ?_ ?_ _)) | go_size))
  have hz6' := hb6.size
  (try simp at hz6')
  clear hb6 cA fA zA cB fB zB cC fC zC cD fD zD
  have cA := A6'.cell
  have fA := A6'.frozen
  have zA := A6'.size
  have cB := B6'.cell
  have fB := B6'.frozen
  have zB := B6'.size
  have cC := C6'.cell
  have fC := C6'.frozen
  have zC := C6'.size
  have cD := D6'.cell
  have fD := D6'.frozen
  have zD := D6'.size
  go_wp2
  rw [rounds_succ]
  go_wp2
  rw [rounds_succ]
  go_wp2
  refine bodyPost_ret (v := nv (x * y)) (by simp [results, Try.results47, go_sem, cA]) rfl ⟨rfl, by (repeat' (first | (with_reducible (first | exact Below.refl _ _ | assumption | refine below_drewN ?_ _ | refine Below.drew ?_ | refine Below.alloc ?_ ?_ _ | refine Below.setCell ?_ ?_ _)) | go_size))⟩
end Go.Proofs.Ytaaoadbcgnedkaa
