/-
  The statement ShareSteps: of a linear curve the virtual time rises, when bytes are taken, by their units over the slope. Conditions: none.
-/
import Derived.Test.YtnkpoelljfbefaaShareT
import Derived.Test.YtnkpoelljfbefaaFrame
import Derived.Deep.Slices
namespace Go.Proofs.Ytnkpoelljfbefaa
open Go.ChangeShapes Go.WideShapes Go.ChangeAt Go.RowKit
open Go.Sort
set_option linter.unusedVariables false
set_option linter.unusedSimpArgs false
theorem u64x3list3 {α : Type} {l : List α} (h : l.length = 3) : ∃ a0 a1 a2, l = [a0, a1, a2] := by
  match l, h with
  | [a0, a1, a2], _ => exact ⟨a0, a1, a2, rfl⟩
theorem cells_u64x3 {H : Type} {w : World} {base : Nat} {spare : Nat → Bool} {held : Bool} {enc : TypeId × Value → H} {fuel : Nat} {c0 c1 c2 : Value} {x : DataW H × List MemPlace} (hf : DataW.trod enc Try.prog w base spare held fuel 54 [c0, c1, c2] = some x) :
    ∃ (x0 : Int) (x1 : Int) (x2 : Int), [c0, c1, c2] = [.int .u64 x0, .int .u64 x1, .int .u64 x2] ∧ (0 ≤ x0 ∧ x0 ≤ 18446744073709551615) ∧ (0 ≤ x1 ∧ x1 ≤ 18446744073709551615) ∧ (0 ≤ x2 ∧ x2 ≤ 18446744073709551615) := by
  have k0 : Try.prog.cellsOf 54 = 3 := by kernel_rfl
  have k1 : Try.prog.cellsOf 22 = 1 := by kernel_rfl
  obtain ⟨ys0, m0, _, _, _, hl0, hx0⟩ := DataW.trod_array Try.underlying54 hf
  obtain ⟨y0_0, y0_1, y0_2, rfl⟩ := u64x3list3 hl0
  have q0_0 := hx0 0 (by simp)
  have q0_1 := hx0 1 (by simp)
  have q0_2 := hx0 2 (by simp)
  simp [k1] at q0_0 q0_1 q0_2
  obtain ⟨x0, e0, _, w0⟩ := DataW.trod_int Try.underlying22 q0_0
  obtain ⟨x1, e1, _, w1⟩ := DataW.trod_int Try.underlying22 q0_1
  obtain ⟨x2, e2, _, w2⟩ := DataW.trod_int Try.underlying22 q0_2
  simp at e0 e1 e2
  subst e0 e1 e2
  exact ⟨x0, x1, x2, rfl, bounds_u64 w0, bounds_u64 w1, bounds_u64 w2⟩
set_option maxRecDepth 100000 in
theorem open_u64x3 {H : Type} {w : World} {base : Nat} {spare : Nat → Bool} {held : Bool} {enc : TypeId × Value → H} {r : Reach} {b0 : Nat} {v : Value} {d : DataW H} {p : List MemPlace} (hv : Value.okWide Try.prog w r b0 54 v) (h : DataW.Trod enc Try.prog w base spare held 54 v d p) :
    ∃ (x0 : Int) (x1 : Int) (x2 : Int), v = .agg #[.int .u64 x0, .int .u64 x1, .int .u64 x2] ∧ (0 ≤ x0 ∧ x0 ≤ 18446744073709551615) ∧ (0 ≤ x1 ∧ x1 ≤ 18446744073709551615) ∧ (0 ≤ x2 ∧ x2 ≤ 18446744073709551615) := by
  obtain ⟨cs, rfl, hsz⟩ := okWide_arr Try.underlying54 hv
  obtain ⟨l⟩ := cs
  obtain ⟨c0, c1, c2, rfl⟩ := u64x3list3 (l := l) (hsz.trans (show Try.prog.cellsOf 54 = 3 by kernel_rfl))
  obtain ⟨fuel, hf⟩ := h
  obtain ⟨x0, x1, x2, e, bs⟩ := cells_u64x3 (x := (d, p)) (show DataW.trod enc Try.prog w base spare held fuel 54 [c0, c1, c2] = some (d, p) by simpa [Value.cells] using hf)
  simp at e
  obtain ⟨rfl, rfl, rfl⟩ := e
  exact ⟨x0, x1, x2, rfl, bs⟩
set_option maxRecDepth 100000 in
set_option maxHeartbeats 4000000 in
theorem SST_main (M low p q s T0 T1 T2 P W : Int) (r : RN) (w : World) (hM : 1 ≤ M ∧ M ≤ 4294967295) (hl : 0 ≤ low ∧ low ≤ 4611686018427387904) (hp : 0 ≤ p ∧ p ≤ 1099511627776) (hq : 0 ≤ q ∧ q ≤ 1099511627776) (hs : 0 ≤ s ∧ s ≤ 4294967296)
    (hr : RN.start M 0 M low (p * 65536) = r) (or : r.ok) (h0 : r.time p = T0) (h1 : r.time (p + q) = T1) (h2 : r.time (p + q + s) = T2) (b1 : 0 ≤ T1 ∧ T1 ≤ T2) (b2 : T2 ≤ 4899916394579099648) (hP : (T2 - T1) * M = P) (iP : 0 ≤ P ∧ P ≤ 281474976710656 + 4294967295) (hW : s * 65536 = W) (iW : 0 ≤ W ∧ W ≤ 281474976710656) (c1 : P < W + M) (c2 : W < P + M) :
    Calls Try.prog 5 #[.int .u64 M, .int .u64 low, .agg #[.int .u64 p, .int .u64 q, .int .u64 s]] w fun e w' => e = .returned (.bool true) ∧ Below w.heap.size w w' := by
  have hw : ∀ v, Calls Try.prog 11 #[.agg #[.bool false, .int .u64 0, .int .u64 0, .int .u64 0, .int .u64 0, .int .u64 0, .int .u64 0, .int .u64 0, .int .u64 0, .bool false, .int .u64 0], .agg #[.int .u64 M, .int .u64 0, .int .u64 M], .int .u64 low, .int .u64 p] v fun e w' => e = .returned (.agg #[.bool true, .int .u64 r.f.X, .int .u64 (hi (r.f.Y)), .int .u64 (lo (r.f.Y)), .int .u64 r.f.M, .int .u64 r.t.X, .int .u64 (hi (r.t.Y)), .int .u64 (lo (r.t.Y)), .int .u64 r.t.M, .bool r.b, .int .u64 T0]) ∧ Below v.heap.size v w' := fun v =>
    wake_any ⟨false, ⟨⟨0, 0, 0⟩, ⟨0, 0, 0⟩, false⟩, 0⟩ ⟨true, r, T0⟩ M 0 M low p v ⟨by omega, by omega⟩ (by omega) ⟨by omega, by omega⟩ ⟨by omega, by omega⟩ ⟨by omega, by omega⟩ (by unfold RN.ok LN.ok In128; simp) (by rw [← h0, ← hr]; rfl)
  have ta : ∀ v, Calls Try.prog 13 #[.agg #[.bool true, .int .u64 r.f.X, .int .u64 (hi (r.f.Y)), .int .u64 (lo (r.f.Y)), .int .u64 r.f.M, .int .u64 r.t.X, .int .u64 (hi (r.t.Y)), .int .u64 (lo (r.t.Y)), .int .u64 r.t.M, .bool r.b, .int .u64 T0], .int .u64 (p + q)] v fun e w' => e = .returned (.agg #[.bool true, .int .u64 r.f.X, .int .u64 (hi (r.f.Y)), .int .u64 (lo (r.f.Y)), .int .u64 r.f.M, .int .u64 r.t.X, .int .u64 (hi (r.t.Y)), .int .u64 (lo (r.t.Y)), .int .u64 r.t.M, .bool r.b, .int .u64 T1]) ∧ Below v.heap.size v w' := fun v =>
    took_any ⟨true, r, T0⟩ ⟨true, r, T1⟩ (p + q) v ⟨by omega, by omega⟩ or (by rw [← h1]; rfl)
  have tb : ∀ v, Calls Try.prog 13 #[.agg #[.bool true, .int .u64 r.f.X, .int .u64 (hi (r.f.Y)), .int .u64 (lo (r.f.Y)), .int .u64 r.f.M, .int .u64 r.t.X, .int .u64 (hi (r.t.Y)), .int .u64 (lo (r.t.Y)), .int .u64 r.t.M, .bool r.b, .int .u64 T0], .int .u64 (p + q + s)] v fun e w' => e = .returned (.agg #[.bool true, .int .u64 r.f.X, .int .u64 (hi (r.f.Y)), .int .u64 (lo (r.f.Y)), .int .u64 r.f.M, .int .u64 r.t.X, .int .u64 (hi (r.t.Y)), .int .u64 (lo (r.t.Y)), .int .u64 r.t.M, .bool r.b, .int .u64 T2]) ∧ Below v.heap.size v w' := fun v =>
    took_any ⟨true, r, T0⟩ ⟨true, r, T2⟩ (p + q + s) v ⟨by omega, by omega⟩ or (by rw [← h2]; rfl)
  have Hw := hide hw; have Ha := hide ta; have Hb := hide tb; have HP := hide hP; have HW := hide hW; clear hw ta tb hP hW h0 h1 h2 hr or
  have i1 : In128 P := by unfold In128; omega
  have i2 : In128 W := by unfold In128; omega
  have i3 : In128 M := by unfold In128; omega
  have i4 : In128 (W + M) := by unfold In128; omega
  have i5 : In128 (P + M) := by unfold In128; omega
  have m1 : m128 (W + M) = W + M := by unfold m128; omega
  have m2 : m128 (P + M) = P + M := by unfold m128; omega
  have M1 := hide m1; have M2 := hide m2; clear m1 m2
  have d1 : decide (M < 1) = false := decide_eq_false (by omega)
  have d2 : decide (4294967295 < M) = false := decide_eq_false (by omega)
  have d3 : decide (4611686018427387904 < low) = false := decide_eq_false (by omega)
  have d4 : decide (1099511627776 < p) = false := decide_eq_false (by omega)
  have d5 : decide (1099511627776 < q) = false := decide_eq_false (by omega)
  have d6 : decide (4294967296 < s) = false := decide_eq_false (by omega)
  have d7 : decide (T2 < T1) = false := decide_eq_false (by omega)
  go_enter Try.func5, Try.ntmps5
  go_wp2_with fail
  refine (Hw.out _).mono ?_
  rintro e w1 ⟨rfl, hb1⟩
  have Q1 : Blk w1 (w.heap.size) #[.int .u64 p, .int .u64 q, .int .u64 s] 54 := Blk.below (by (repeat' (first | (with_reducible (first | assumption | exact Blk.alloc_new _ _ _ (by first | rfl | (simp; done) | omega) | apply Blk.drewN | apply Blk.drew | apply Blk.alloc_old | apply Blk.set_same | apply Blk.set_other)) | (show (_ : Nat) ≠ _; first | omega | (simp; done) | (simp; omega)) | ((simp only [List.setIfInBounds_toArray, List.set_cons_succ, List.set_cons_zero]); (with_reducible exact rfl)) | (with_reducible exact rfl) | (show (_ : Array Value) = _; exact rfl)))) hb1 (by first | (simp; done) | omega | (simp; omega))
  have g1 : Below w.heap.size w w1 := by refine Below.trans ?_ (hb1.mono ?_) <;> (repeat' (first | (with_reducible (first | exact Below.refl _ _ | assumption | refine below_drewN ?_ _ | refine Below.drew ?_ | refine Below.alloc ?_ ?_ _ | refine Below.setCell ?_ ?_ _)) | go_size))
  have hz1 := hb1.size
  (try simp at hz1)
  clear hb1
  replace cQ := Q1.cell
  replace fQ := Q1.frozen
  replace zQ := Q1.size
  go_wp2_with fail
  refine (Ha.out _).mono ?_
  rintro e w2 ⟨rfl, hb2⟩
  have Q2 : Blk w2 (w.heap.size) #[.int .u64 p, .int .u64 q, .int .u64 s] 54 := Blk.below (by (repeat' (first | (with_reducible (first | assumption | exact Blk.alloc_new _ _ _ (by first | rfl | (simp; done) | omega) | apply Blk.drewN | apply Blk.drew | apply Blk.alloc_old | apply Blk.set_same | apply Blk.set_other)) | (show (_ : Nat) ≠ _; first | omega | (simp; done) | (simp; omega)) | ((simp only [List.setIfInBounds_toArray, List.set_cons_succ, List.set_cons_zero]); (with_reducible exact rfl)) | (with_reducible exact rfl) | (show (_ : Array Value) = _; exact rfl)))) hb2 (by first | (simp; done) | omega | (simp; omega))
  have A2 : Blk w2 (w1.heap.size) #[.bool true, .int .u64 r.f.X, .int .u64 (hi (r.f.Y)), .int .u64 (lo (r.f.Y)), .int .u64 r.f.M, .int .u64 r.t.X, .int .u64 (hi (r.t.Y)), .int .u64 (lo (r.t.Y)), .int .u64 r.t.M, .bool r.b, .int .u64 T0] 30 := Blk.below (by (repeat' (first | (with_reducible (first | assumption | exact Blk.alloc_new _ _ _ (by first | rfl | (simp; done) | omega) | apply Blk.drewN | apply Blk.drew | apply Blk.alloc_old | apply Blk.set_same | apply Blk.set_other)) | (show (_ : Nat) ≠ _; first | omega | (simp; done) | (simp; omega)) | ((simp only [List.setIfInBounds_toArray, List.set_cons_succ, List.set_cons_zero]); (with_reducible exact rfl)) | (with_reducible exact rfl) | (show (_ : Array Value) = _; exact rfl)))) hb2 (by first | (simp; done) | omega | (simp; omega))
  have g2 : Below w.heap.size w w2 := by refine Below.trans ?_ (hb2.mono ?_) <;> (repeat' (first | (with_reducible (first | exact Below.refl _ _ | assumption | refine below_drewN ?_ _ | refine Below.drew ?_ | refine Below.alloc ?_ ?_ _ | refine Below.setCell ?_ ?_ _)) | go_size))
  have hz2 := hb2.size
  (try simp at hz2)
  clear hb2
  replace cQ := Q2.cell
  replace fQ := Q2.frozen
  replace zQ := Q2.size
  have cA := A2.cell
  have fA := A2.frozen
  have zA := A2.size
  go_wp2_with fail
  refine (Hb.out _).mono ?_
  rintro e w3 ⟨rfl, hb3⟩
  have Q3 : Blk w3 (w.heap.size) #[.int .u64 p, .int .u64 q, .int .u64 s] 54 := Blk.below (by (repeat' (first | (with_reducible (first | assumption | exact Blk.alloc_new _ _ _ (by first | rfl | (simp; done) | omega) | apply Blk.drewN | apply Blk.drew | apply Blk.alloc_old | apply Blk.set_same | apply Blk.set_other)) | (show (_ : Nat) ≠ _; first | omega | (simp; done) | (simp; omega)) | ((simp only [List.setIfInBounds_toArray, List.set_cons_succ, List.set_cons_zero]); (with_reducible exact rfl)) | (with_reducible exact rfl) | (show (_ : Array Value) = _; exact rfl)))) hb3 (by first | (simp; done) | omega | (simp; omega))
  have A3 : Blk w3 (w1.heap.size) #[.bool true, .int .u64 r.f.X, .int .u64 (hi (r.f.Y)), .int .u64 (lo (r.f.Y)), .int .u64 r.f.M, .int .u64 r.t.X, .int .u64 (hi (r.t.Y)), .int .u64 (lo (r.t.Y)), .int .u64 r.t.M, .bool r.b, .int .u64 T0] 30 := Blk.below (by (repeat' (first | (with_reducible (first | assumption | exact Blk.alloc_new _ _ _ (by first | rfl | (simp; done) | omega) | apply Blk.drewN | apply Blk.drew | apply Blk.alloc_old | apply Blk.set_same | apply Blk.set_other)) | (show (_ : Nat) ≠ _; first | omega | (simp; done) | (simp; omega)) | ((simp only [List.setIfInBounds_toArray, List.set_cons_succ, List.set_cons_zero]); (with_reducible exact rfl)) | (with_reducible exact rfl) | (show (_ : Array Value) = _; exact rfl)))) hb3 (by first | (simp; done) | omega | (simp; omega))
  have B3 : Blk w3 (w2.heap.size) #[.bool true, .int .u64 r.f.X, .int .u64 (hi (r.f.Y)), .int .u64 (lo (r.f.Y)), .int .u64 r.f.M, .int .u64 r.t.X, .int .u64 (hi (r.t.Y)), .int .u64 (lo (r.t.Y)), .int .u64 r.t.M, .bool r.b, .int .u64 T1] 30 := Blk.below (by (repeat' (first | (with_reducible (first | assumption | exact Blk.alloc_new _ _ _ (by first | rfl | (simp; done) | omega) | apply Blk.drewN | apply Blk.drew | apply Blk.alloc_old | apply Blk.set_same | apply Blk.set_other)) | (show (_ : Nat) ≠ _; first | omega | (simp; done) | (simp; omega)) | ((simp only [List.setIfInBounds_toArray, List.set_cons_succ, List.set_cons_zero]); (with_reducible exact rfl)) | (with_reducible exact rfl) | (show (_ : Array Value) = _; exact rfl)))) hb3 (by first | (simp; done) | omega | (simp; omega))
  have g3 : Below w.heap.size w w3 := by refine Below.trans ?_ (hb3.mono ?_) <;> (repeat' (first | (with_reducible (first | exact Below.refl _ _ | assumption | refine below_drewN ?_ _ | refine Below.drew ?_ | refine Below.alloc ?_ ?_ _ | refine Below.setCell ?_ ?_ _)) | go_size))
  have hz3 := hb3.size
  (try simp at hz3)
  clear hb3
  replace cQ := Q3.cell
  replace fQ := Q3.frozen
  replace zQ := Q3.size
  replace cA := A3.cell
  replace fA := A3.frozen
  replace zA := A3.size
  have cB := B3.cell
  have fB := B3.frozen
  have zB := B3.size
  go_wp2_with fail
  refine (rMulC (T2 - T1) M P _ (by omega) (by omega) HP.out).mono ?_
  rintro e w4 ⟨rfl, hb4⟩
  have Q4 : Blk w4 (w.heap.size) #[.int .u64 p, .int .u64 q, .int .u64 s] 54 := Blk.below (by (repeat' (first | (with_reducible (first | assumption | exact Blk.alloc_new _ _ _ (by first | rfl | (simp; done) | omega) | apply Blk.drewN | apply Blk.drew | apply Blk.alloc_old | apply Blk.set_same | apply Blk.set_other)) | (show (_ : Nat) ≠ _; first | omega | (simp; done) | (simp; omega)) | ((simp only [List.setIfInBounds_toArray, List.set_cons_succ, List.set_cons_zero]); (with_reducible exact rfl)) | (with_reducible exact rfl) | (show (_ : Array Value) = _; exact rfl)))) hb4 (by first | (simp; done) | omega | (simp; omega))
  have A4 : Blk w4 (w1.heap.size) #[.bool true, .int .u64 r.f.X, .int .u64 (hi (r.f.Y)), .int .u64 (lo (r.f.Y)), .int .u64 r.f.M, .int .u64 r.t.X, .int .u64 (hi (r.t.Y)), .int .u64 (lo (r.t.Y)), .int .u64 r.t.M, .bool r.b, .int .u64 T0] 30 := Blk.below (by (repeat' (first | (with_reducible (first | assumption | exact Blk.alloc_new _ _ _ (by first | rfl | (simp; done) | omega) | apply Blk.drewN | apply Blk.drew | apply Blk.alloc_old | apply Blk.set_same | apply Blk.set_other)) | (show (_ : Nat) ≠ _; first | omega | (simp; done) | (simp; omega)) | ((simp only [List.setIfInBounds_toArray, List.set_cons_succ, List.set_cons_zero]); (with_reducible exact rfl)) | (with_reducible exact rfl) | (show (_ : Array Value) = _; exact rfl)))) hb4 (by first | (simp; done) | omega | (simp; omega))
  have B4 : Blk w4 (w2.heap.size) #[.bool true, .int .u64 r.f.X, .int .u64 (hi (r.f.Y)), .int .u64 (lo (r.f.Y)), .int .u64 r.f.M, .int .u64 r.t.X, .int .u64 (hi (r.t.Y)), .int .u64 (lo (r.t.Y)), .int .u64 r.t.M, .bool r.b, .int .u64 T1] 30 := Blk.below (by (repeat' (first | (with_reducible (first | assumption | exact Blk.alloc_new _ _ _ (by first | rfl | (simp; done) | omega) | apply Blk.drewN | apply Blk.drew | apply Blk.alloc_old | apply Blk.set_same | apply Blk.set_other)) | (show (_ : Nat) ≠ _; first | omega | (simp; done) | (simp; omega)) | ((simp only [List.setIfInBounds_toArray, List.set_cons_succ, List.set_cons_zero]); (with_reducible exact rfl)) | (with_reducible exact rfl) | (show (_ : Array Value) = _; exact rfl)))) hb4 (by first | (simp; done) | omega | (simp; omega))
  have C4 : Blk w4 (w3.heap.size) #[.bool true, .int .u64 r.f.X, .int .u64 (hi (r.f.Y)), .int .u64 (lo (r.f.Y)), .int .u64 r.f.M, .int .u64 r.t.X, .int .u64 (hi (r.t.Y)), .int .u64 (lo (r.t.Y)), .int .u64 r.t.M, .bool r.b, .int .u64 T2] 30 := Blk.below (by (repeat' (first | (with_reducible (first | assumption | exact Blk.alloc_new _ _ _ (by first | rfl | (simp; done) | omega) | apply Blk.drewN | apply Blk.drew | apply Blk.alloc_old | apply Blk.set_same | apply Blk.set_other)) | (show (_ : Nat) ≠ _; first | omega | (simp; done) | (simp; omega)) | ((simp only [List.setIfInBounds_toArray, List.set_cons_succ, List.set_cons_zero]); (with_reducible exact rfl)) | (with_reducible exact rfl) | (show (_ : Array Value) = _; exact rfl)))) hb4 (by first | (simp; done) | omega | (simp; omega))
  have g4 : Below w.heap.size w w4 := by refine Below.trans ?_ (hb4.mono ?_) <;> (repeat' (first | (with_reducible (first | exact Below.refl _ _ | assumption | refine below_drewN ?_ _ | refine Below.drew ?_ | refine Below.alloc ?_ ?_ _ | refine Below.setCell ?_ ?_ _)) | go_size))
  have hz4 := hb4.size
  (try simp at hz4)
  clear hb4
  replace cQ := Q4.cell
  replace fQ := Q4.frozen
  replace zQ := Q4.size
  replace cA := A4.cell
  replace fA := A4.frozen
  replace zA := A4.size
  replace cB := B4.cell
  replace fB := B4.frozen
  replace zB := B4.size
  have cC := C4.cell
  have fC := C4.frozen
  have zC := C4.size
  go_wp2_with fail
  refine (rMulC s 65536 W _ (by omega) (by omega) HW.out).mono ?_
  rintro e w5 ⟨rfl, hb5⟩
  have Q5 : Blk w5 (w.heap.size) #[.int .u64 p, .int .u64 q, .int .u64 s] 54 := Blk.below (by (repeat' (first | (with_reducible (first | assumption | exact Blk.alloc_new _ _ _ (by first | rfl | (simp; done) | omega) | apply Blk.drewN | apply Blk.drew | apply Blk.alloc_old | apply Blk.set_same | apply Blk.set_other)) | (show (_ : Nat) ≠ _; first | omega | (simp; done) | (simp; omega)) | ((simp only [List.setIfInBounds_toArray, List.set_cons_succ, List.set_cons_zero]); (with_reducible exact rfl)) | (with_reducible exact rfl) | (show (_ : Array Value) = _; exact rfl)))) hb5 (by first | (simp; done) | omega | (simp; omega))
  have P5 : Blk w5 (w4.heap.size) #[.int .u64 (dg0 (P)), .int .u64 (dg1 (P)), .int .u64 (dg2 (P)), .int .u64 (dg3 (P))] 36 := Blk.below (by (repeat' (first | (with_reducible (first | assumption | exact Blk.alloc_new _ _ _ (by first | rfl | (simp; done) | omega) | apply Blk.drewN | apply Blk.drew | apply Blk.alloc_old | apply Blk.set_same | apply Blk.set_other)) | (show (_ : Nat) ≠ _; first | omega | (simp; done) | (simp; omega)) | ((simp only [List.setIfInBounds_toArray, List.set_cons_succ, List.set_cons_zero]); (with_reducible exact rfl)) | (with_reducible exact rfl) | (show (_ : Array Value) = _; exact rfl)))) hb5 (by first | (simp; done) | omega | (simp; omega))
  have g5 : Below w.heap.size w w5 := by refine Below.trans ?_ (hb5.mono ?_) <;> (repeat' (first | (with_reducible (first | exact Below.refl _ _ | assumption | refine below_drewN ?_ _ | refine Below.drew ?_ | refine Below.alloc ?_ ?_ _ | refine Below.setCell ?_ ?_ _)) | go_size))
  have hz5 := hb5.size
  (try simp at hz5)
  clear hb5
  replace cQ := Q5.cell
  replace fQ := Q5.frozen
  replace zQ := Q5.size
  have cP := P5.cell
  have fP := P5.frozen
  have zP := P5.size
  go_wp2_with fail
  refine (rOf M _ (by omega) (by omega)).mono ?_
  rintro e w6 ⟨rfl, hb6⟩
  have P6 : Blk w6 (w4.heap.size) #[.int .u64 (dg0 (P)), .int .u64 (dg1 (P)), .int .u64 (dg2 (P)), .int .u64 (dg3 (P))] 36 := Blk.below (by (repeat' (first | (with_reducible (first | assumption | exact Blk.alloc_new _ _ _ (by first | rfl | (simp; done) | omega) | apply Blk.drewN | apply Blk.drew | apply Blk.alloc_old | apply Blk.set_same | apply Blk.set_other)) | (show (_ : Nat) ≠ _; first | omega | (simp; done) | (simp; omega)) | ((simp only [List.setIfInBounds_toArray, List.set_cons_succ, List.set_cons_zero]); (with_reducible exact rfl)) | (with_reducible exact rfl) | (show (_ : Array Value) = _; exact rfl)))) hb6 (by first | (simp; done) | omega | (simp; omega))
  have W6 : Blk w6 (w5.heap.size) #[.int .u64 (dg0 (W)), .int .u64 (dg1 (W)), .int .u64 (dg2 (W)), .int .u64 (dg3 (W))] 36 := Blk.below (by (repeat' (first | (with_reducible (first | assumption | exact Blk.alloc_new _ _ _ (by first | rfl | (simp; done) | omega) | apply Blk.drewN | apply Blk.drew | apply Blk.alloc_old | apply Blk.set_same | apply Blk.set_other)) | (show (_ : Nat) ≠ _; first | omega | (simp; done) | (simp; omega)) | ((simp only [List.setIfInBounds_toArray, List.set_cons_succ, List.set_cons_zero]); (with_reducible exact rfl)) | (with_reducible exact rfl) | (show (_ : Array Value) = _; exact rfl)))) hb6 (by first | (simp; done) | omega | (simp; omega))
  have g6 : Below w.heap.size w w6 := by refine Below.trans ?_ (hb6.mono ?_) <;> (repeat' (first | (with_reducible (first | exact Below.refl _ _ | assumption | refine below_drewN ?_ _ | refine Below.drew ?_ | refine Below.alloc ?_ ?_ _ | refine Below.setCell ?_ ?_ _)) | go_size))
  have hz6 := hb6.size
  (try simp at hz6)
  clear hb6
  replace cP := P6.cell
  replace fP := P6.frozen
  replace zP := P6.size
  have cW := W6.cell
  have fW := W6.frozen
  have zW := W6.size
  go_wp2_with fail
  refine wp_forget (fun v => Below w.heap.size w v ∧ Blk v (w4.heap.size) #[.int .u64 (dg0 (P)), .int .u64 (dg1 (P)), .int .u64 (dg2 (P)), .int .u64 (dg3 (P))] 36 ∧ Blk v (w5.heap.size) #[.int .u64 (dg0 (W)), .int .u64 (dg1 (W)), .int .u64 (dg2 (W)), .int .u64 (dg3 (W))] 36 ∧ Blk v (w6.heap.size) #[.int .u64 (dg0 (M)), .int .u64 (dg1 (M)), .int .u64 (dg2 (M)), .int .u64 (dg3 (M))] 36) ⟨by (repeat' (first | (with_reducible (first | exact Below.refl _ _ | assumption | refine below_drewN ?_ _ | refine Below.drew ?_ | refine Below.alloc ?_ ?_ _ | refine Below.setCell ?_ ?_ _)) | go_size)), by (repeat' (first | (with_reducible (first | assumption | exact Blk.alloc_new _ _ _ (by first | rfl | (simp; done) | omega) | apply Blk.drewN | apply Blk.drew | apply Blk.alloc_old | apply Blk.set_same | apply Blk.set_other)) | (show (_ : Nat) ≠ _; first | omega | (simp; done) | (simp; omega)) | ((simp only [List.setIfInBounds_toArray, List.set_cons_succ, List.set_cons_zero]); (with_reducible exact rfl)) | (with_reducible exact rfl) | (show (_ : Array Value) = _; exact rfl))), by (repeat' (first | (with_reducible (first | assumption | exact Blk.alloc_new _ _ _ (by first | rfl | (simp; done) | omega) | apply Blk.drewN | apply Blk.drew | apply Blk.alloc_old | apply Blk.set_same | apply Blk.set_other)) | (show (_ : Nat) ≠ _; first | omega | (simp; done) | (simp; omega)) | ((simp only [List.setIfInBounds_toArray, List.set_cons_succ, List.set_cons_zero]); (with_reducible exact rfl)) | (with_reducible exact rfl) | (show (_ : Array Value) = _; exact rfl))), by (repeat' (first | (with_reducible (first | assumption | exact Blk.alloc_new _ _ _ (by first | rfl | (simp; done) | omega) | apply Blk.drewN | apply Blk.drew | apply Blk.alloc_old | apply Blk.set_same | apply Blk.set_other)) | (show (_ : Nat) ≠ _; first | omega | (simp; done) | (simp; omega)) | ((simp only [List.setIfInBounds_toArray, List.set_cons_succ, List.set_cons_zero]); (with_reducible exact rfl)) | (with_reducible exact rfl) | (show (_ : Array Value) = _; exact rfl)))⟩ ?_
  rintro v7 ⟨gv7, Pv7, Wv7, Mv7⟩
  have qP7 := blk_calm Pv7
  have qW7 := blk_calm Wv7
  have qM7 := blk_calm Mv7
  refine wp_region_quiet_below (by kernel_rfl) (by kernel_rfl) ?_
  repeat (go_big_quiet_step ((first
      | (go_at_call 21; (with_reducible exact Calls.regrown_of (rPlusM W M (W + M) _ i2 i3 M1.out)))
      | (go_at_call 20; (with_reducible exact Calls.regrown_of (rLessC P (W + M) true _ i1 i4 (decide_eq_true c1))))
      | (go_at_call 21; (with_reducible exact Calls.regrown_of (rPlusM P M (P + M) _ i1 i3 M2.out)))
      | (go_at_call 20; (with_reducible exact Calls.regrown_of (rLessC W (P + M) true _ i2 i5 (decide_eq_true c2))))
      | (go_at_call 9; (with_reducible exact Calls.regrown_of (seven_true _))))))
  refine wpQuiet_nil ?_
  intro _ hw'
  obtain ⟨pq, hw''⟩ := hw'
  subst hw''
  have hb7 := below_regrown v7 pq.d pq.os
  generalize Sort.grow (redrawn v7 pq.d) pq.os = w7 at *
  have P7 : Blk w7 (w4.heap.size) #[.int .u64 (dg0 (P)), .int .u64 (dg1 (P)), .int .u64 (dg2 (P)), .int .u64 (dg3 (P))] 36 := Blk.below Pv7 hb7 Pv7.size
  have W7 : Blk w7 (w5.heap.size) #[.int .u64 (dg0 (W)), .int .u64 (dg1 (W)), .int .u64 (dg2 (W)), .int .u64 (dg3 (W))] 36 := Blk.below Wv7 hb7 Wv7.size
  have M7 : Blk w7 (w6.heap.size) #[.int .u64 (dg0 (M)), .int .u64 (dg1 (M)), .int .u64 (dg2 (M)), .int .u64 (dg3 (M))] 36 := Blk.below Mv7 hb7 Mv7.size
  have g7 : Below w.heap.size w w7 := gv7.trans (hb7.mono gv7.size)
  have hz7 : w.heap.size ≤ w7.heap.size := g7.size
  clear hb7 gv7 Pv7 qP7 Wv7 qW7 Mv7 qM7
  replace cP := P7.cell
  replace fP := P7.frozen
  replace zP := P7.size
  replace cW := W7.cell
  replace fW := W7.frozen
  replace zW := W7.size
  have cM := M7.cell
  have fM := M7.frozen
  have zM := M7.size
  go_wp2
  go_ret
  exact ⟨rfl, by (repeat' (first | (with_reducible (first | exact Below.refl _ _ | assumption | refine below_drewN ?_ _ | refine Below.drew ?_ | refine Below.alloc ?_ ?_ _ | refine Below.setCell ?_ ?_ _)) | go_size))⟩
set_option maxHeartbeats 2000000 in
theorem SST_out (M low p q s : Int) (w : World) (h : ¬ (1 ≤ M ∧ M ≤ 4294967295 ∧ low ≤ 4611686018427387904 ∧ p ≤ 1099511627776 ∧ q ≤ 1099511627776 ∧ s ≤ 4294967296)) :
    Calls Try.prog 5 #[.int .u64 M, .int .u64 low, .agg #[.int .u64 p, .int .u64 q, .int .u64 s]] w fun e w' => e = .returned (.bool true) ∧ Below w.heap.size w w' := by
  go_enter Try.func5, Try.ntmps5
  go_wp2_with (first | (go_at_call 9; refine (seven_true _).mono ?_; rintro e w' ⟨rfl, hb'⟩; have hbx : Below w.heap.size w w' := (by refine Below.trans ?_ (Below.mono hb' ?_) <;> (repeat' (first | (with_reducible (first | exact Below.refl _ _ | assumption | refine below_drewN ?_ _ | refine Below.drew ?_ | refine Below.alloc ?_ ?_ _ | refine Below.setCell ?_ ?_ _)) | go_size))); have hbs := hb'.size; (try simp at hbs); skip; clear hb'))
  all_goals first
    | (exfalso; omega)
    | (go_ret; exact ⟨rfl, by (repeat' (first | (with_reducible (first | exact Below.refl _ _ | assumption | refine below_drewN ?_ _ | refine Below.drew ?_ | refine Below.alloc ?_ ?_ _ | refine Below.setCell ?_ ?_ _)) | go_size))⟩)
theorem ShareSteps_walk (M : Int) (hM : 0 ≤ M ∧ M ≤ 18446744073709551615) (low : Int) (hlow : 0 ≤ low ∧ low ≤ 18446744073709551615) (p : Int) (hp : 0 ≤ p ∧ p ≤ 18446744073709551615) (q : Int) (hq : 0 ≤ q ∧ q ≤ 18446744073709551615) (s : Int) (hs : 0 ≤ s ∧ s ≤ 18446744073709551615) (w : World) :
    Calls Try.prog 5 #[.int .u64 M, .int .u64 low, .agg #[.int .u64 p, .int .u64 q, .int .u64 s]] w fun e w' => e = .returned (.bool true) ∧ Below w.heap.size w w' := by
  by_cases h : 1 ≤ M ∧ M ≤ 4294967295 ∧ low ≤ 4611686018427387904 ∧ p ≤ 1099511627776 ∧ q ≤ 1099511627776 ∧ s ≤ 4294967296
  · obtain ⟨g1, g2, g3, g4⟩ := h
    have st := steps_plain (M := M) (low := low) (p := p) (q := q) (s := s) ⟨g1, g2⟩ ⟨hlow.1, g3⟩ ⟨hp.1, by omega⟩ ⟨hq.1, by omega⟩ ⟨hs.1, by omega⟩
    obtain ⟨s1, s2, s3, s4, s5⟩ := st
    have os := RN.start_ok (m := M) (d := 0) (n := M) (x := low) (y := p * 65536) hM (by omega) hM ⟨hlow.1, by omega⟩ (un_in hp)
    exact SST_main M low p q s _ _ _ _ _ _ w ⟨g1, g2⟩ ⟨hlow.1, g3⟩ ⟨hp.1, by omega⟩ ⟨hq.1, by omega⟩ ⟨hs.1, by omega⟩ rfl os rfl rfl rfl ⟨s3, s1⟩ s2 rfl (by have := Int.mul_nonneg (show 0 ≤ RN.time (RN.start M 0 M low (p * 65536)) (p + q + s) - RN.time (RN.start M 0 M low (p * 65536)) (p + q) by omega) (show 0 ≤ M by omega); omega) rfl (by omega) s4 s5
  · exact SST_out M low p q s w h
namespace shareStepsDone
theorem own : ownKnob Try.prog.godebug = none := by kernel_rfl
theorem laidOut : laidOutB Try.prog = true := by kernel_rfl
set_option maxRecDepth 100000 in
theorem lifted (os : Os) (started : os.Started) (H : Type) (enc : TypeId × Value → H) :
    ReturnsInHanded {} Try.checked os 5 .any (Rows.shareStepsSpec.pre6 enc Try.prog Try.f5 Rows.shareStepsRow.domain false) (Rows.shareStepsSpec.post enc Try.prog Try.f5 false true false false) := by
  refine returnsInHanded_of_change (C := Try.checked) own started (by kernel_rfl) Try.func5
    (ChangeSpec.witness6 (enc := enc) (C := Try.checked) false ⟨#[], #[.int .u64 0, .int .u64 0, .agg #[.int .u64 0, .int .u64 0, .int .u64 0]], []⟩ 8 (by kernel_rfl) (by kernel_rfl) (by kernel_rfl) (by kernel_rfl)) ?_
  intro W base args ds gs before hval0 hW hcnd _
  have hval : ∀ (j : Nat) t v, Try.f5.params[j]? = some t → args[j]? = some v → Value.okWide Try.prog W .any base t v := hval0
  have hW' := hW
  obtain ⟨p, q, hA0, hV, rfl, hfz, hnd⟩ := hW
  have hA : DataW.TrodAll enc Try.prog W 0 (fun _ => true) true Try.f5.params.toList args.toList ds p := hA0
  rw [Try.params5] at hA hval
  obtain ⟨v0, vs0, d0, ds0, p0, q0, hargs, rfl, rfl, h0, r0⟩ := trodAll_cons hA
  obtain ⟨v1, vs1, d1, ds1, p1, q1, rfl, rfl, rfl, h1, r1⟩ := trodAll_cons r0
  obtain ⟨v2, vs2, d2, ds2, p2, q2, rfl, rfl, rfl, h2, r2⟩ := trodAll_cons r1
  obtain ⟨rfl, rfl, rfl⟩ := trodAll_nil r2
  obtain rfl : args = #[v0, v1, v2] := by cases args; simp_all
  obtain ⟨rfl, rfl⟩ := trodVars_none hV
  obtain ⟨a0, rfl, rfl, rfl, wf0⟩ := open_int Try.underlying22 (hval 0 22 v0 rfl rfl) h0
  have b0 := bounds_u64 wf0
  obtain ⟨a1, rfl, rfl, rfl, wf1⟩ := open_int Try.underlying22 (hval 1 22 v1 rfl rfl) h1
  have b1 := bounds_u64 wf1
  have k2 := h2
  have lt2 : ∀ x ∈ p2, x.block < W.heap.size := by obtain ⟨m, hm⟩ := k2; exact DataW.trod_lt m _ _ _ hm
  obtain ⟨a2_0, a2_1, a2_2, rfl, b2_0, b2_1, b2_2⟩ := open_u64x3 (hval 2 54 v2 rfl rfl) h2
  clear hA0 hval0
  refine (ShareSteps_walk a0 b0 a1 b1 a2_0 b2_0 a2_1 b2_1 a2_2 b2_2 W).mono fun e W' ⟨he, bel⟩ => ?_
  subst he
  exact ⟨_, rfl, _, _, _, [], _, [], hW', trodAll_mk1 (shut_bool Try.underlying4 _), (trodAll_cons_mk (shut_int Try.underlying22 wf0) (trodAll_cons_mk (shut_int Try.underlying22 wf1) (trodAll_cons_mk (Below.trod laidOut (by kernel_rfl) (of_decide_eq_true (by kernel_rfl)) k2 bel lt2) trodAll_mk0))), rfl, bel.frame _, fun h => by cases h⟩
theorem over : Rows.shareStepsRow.holds Try.pinned (OpenSpec.ofChange Rows.shareStepsSpec) :=
  OpenClaim.holds_of_wide 5 Try.f5 rfl rfl rfl rfl rfl rfl rfl ⟨rfl, rfl, rfl, rfl, rfl⟩ rfl rfl rfl rfl rfl (by kernel_rfl) Try.func5 (by kernel_rfl)
    (of_decide_eq_true (by kernel_rfl)) (by unfold Func.isWrapper; first | (rw [if_pos (by decide +kernel)]; kernel_rfl) | (rw [if_neg (by decide +kernel)]; exact ⟨rfl, rfl⟩))
    (fun os started H enc _ => lifted os started H enc)
end shareStepsDone
theorem ShareSteps_holds : Rows.ShareStepsSaid := shareStepsDone.over

end Go.Proofs.Ytnkpoelljfbefaa
