/-
  The statement UpperMost: how many bytes a class with any curve sends at the most in any ticks; in more ticks no less; from when an inner class fits. Conditions: none.
-/
import Derived.Test.YtnkpoelljfbefaaLawG1
namespace Go.Proofs.Ytnkpoelljfbefaa
open Go.ChangeShapes Go.WideShapes Go.ChangeAt Go.RowKit
open Go.Sort
set_option linter.unusedVariables false
set_option linter.unusedSimpArgs false
theorem u64x3list3 {α : Type} {l : List α} (h : l.length = 3) : ∃ a0 a1 a2, l = [a0, a1, a2] := by
  match l, h with
  | [a0, a1, a2], _ => exact ⟨a0, a1, a2, rfl⟩
theorem cells_u64x3 {H : Type} {w : World} {base : Nat} {spare : Nat → Bool} {held : Bool} {enc : TypeId × Value → H} {fuel : Nat} {c0 c1 c2 : Value} {x : DataW H × List MemPlace} (hf : DataW.trod enc Try.prog w base spare held fuel 54 [c0, c1, c2] = some x) :
    ∃ (x0 : Int) (x1 : Int) (x2 : Int), [c0, c1, c2] = [.int .u64 x0, .int .u64 x1, .int .u64 x2] ∧ (0 ≤ x0 ∧ x0 ≤ 18446744073709551615) ∧ (0 ≤ x1 ∧ x1 ≤ 18446744073709551615) ∧ (0 ≤ x2 ∧ x2 ≤ 18446744073709551615) := by
  have k0 : Try.prog.cellsOf 54 = 3 := by kernel_rfl
  have k1 : Try.prog.cellsOf 22 = 1 := by kernel_rfl
  obtain ⟨ys0, m0, _, _, _, hl0, hx0⟩ := DataW.trod_array Try.underlying54 hf
  obtain ⟨y0_0, y0_1, y0_2, rfl⟩ := u64x3list3 hl0
  have q0_0 := hx0 0 (by simp)
  have q0_1 := hx0 1 (by simp)
  have q0_2 := hx0 2 (by simp)
  simp [k1] at q0_0 q0_1 q0_2
  obtain ⟨x0, e0, _, w0⟩ := DataW.trod_int Try.underlying22 q0_0
  obtain ⟨x1, e1, _, w1⟩ := DataW.trod_int Try.underlying22 q0_1
  obtain ⟨x2, e2, _, w2⟩ := DataW.trod_int Try.underlying22 q0_2
  simp at e0 e1 e2
  subst e0 e1 e2
  exact ⟨x0, x1, x2, rfl, bounds_u64 w0, bounds_u64 w1, bounds_u64 w2⟩
set_option maxRecDepth 100000 in
theorem open_u64x3 {H : Type} {w : World} {base : Nat} {spare : Nat → Bool} {held : Bool} {enc : TypeId × Value → H} {r : Reach} {b0 : Nat} {v : Value} {d : DataW H} {p : List MemPlace} (hv : Value.okWide Try.prog w r b0 54 v) (h : DataW.Trod enc Try.prog w base spare held 54 v d p) :
    ∃ (x0 : Int) (x1 : Int) (x2 : Int), v = .agg #[.int .u64 x0, .int .u64 x1, .int .u64 x2] ∧ (0 ≤ x0 ∧ x0 ≤ 18446744073709551615) ∧ (0 ≤ x1 ∧ x1 ≤ 18446744073709551615) ∧ (0 ≤ x2 ∧ x2 ≤ 18446744073709551615) := by
  obtain ⟨cs, rfl, hsz⟩ := okWide_arr Try.underlying54 hv
  obtain ⟨l⟩ := cs
  obtain ⟨c0, c1, c2, rfl⟩ := u64x3list3 (l := l) (hsz.trans (show Try.prog.cellsOf 54 = 3 by kernel_rfl))
  obtain ⟨fuel, hf⟩ := h
  obtain ⟨x0, x1, x2, e, bs⟩ := cells_u64x3 (x := (d, p)) (show DataW.trod enc Try.prog w base spare held fuel 54 [c0, c1, c2] = some (d, p) by simpa [Value.cells] using hf)
  simp at e
  obtain ⟨rfl, rfl, rfl⟩ := e
  exact ⟨x0, x1, x2, rfl, bs⟩
set_option maxHeartbeats 4000000 in
theorem UM_a1 (m d n q0 q1 q2 L s z e r x s' z' e' r' : Int) (w : World) (hm : 0 ≤ m ∧ m ≤ 18446744073709551615) (hd : 0 ≤ d ∧ d ≤ 18446744073709551615) (hn : 0 ≤ n ∧ n ≤ 18446744073709551615) (h0 : 0 ≤ q0 ∧ q0 ≤ 18446744073709551615) (h1 : 0 ≤ q1 ∧ q1 ≤ 18446744073709551615) (h2 : 0 ≤ q2 ∧ q2 ≤ 18446744073709551615) (hL : -9223372036854775808 ≤ L ∧ L ≤ 9223372036854775807) (hs : sk m d n q0 = s) (s1 : In128 s) (hf : FlR s 65536 z e) (hr : min (s / 65536 + max L 0) 18446744073709551615 = r) (hx : max q1 q2 = x) (ha : ¬ q0 < 4611686018427387904) :
    Calls Try.prog 7 #[.agg #[.int .u64 m, .int .u64 d, .int .u64 n], .agg #[.int .u64 q0, .int .u64 q1, .int .u64 q2], .int .i64 L] w fun e w' => e = .returned (.bool true) ∧ Below w.heap.size w w' := by
  have Hs := hide hs; have Hf := hide hf; have Hr := hide hr; have Hx := hide hx
  clear hs hf hr
  have ga : decide (q0 < 4611686018427387904) = false := decide_eq_false ha
  have x1 : (x == q1) = true ∨ (x == q1) = false := by cases (x == q1) <;> simp
  have g1 : decide (q1 ≤ x) = true := decide_eq_true (by omega)
  have g2 : decide (q2 ≤ x) = true := decide_eq_true (by omega)
  have rr : (r == r) = true := by simp
  rcases x1 with x1 | x1
  · skip
    clear hx
    go_enter Try.func7, Try.ntmps7
    go_wp2_with fail
    refine (most_any m d n q0 L s z e _ hm.1 hd.1 hn.1 h0 hL Hs.out s1 Hf.out r Hr.out).mono ?_
    rintro e w1 ⟨rfl, hb1⟩
    have C1 : Blk w1 (w.heap.size) #[.int .u64 m, .int .u64 d, .int .u64 n] 32 := Blk.below (by (repeat' (first | (with_reducible (first | assumption | exact Blk.alloc_new _ _ _ (by first | rfl | (simp; done) | omega) | apply Blk.drewN | apply Blk.drew | apply Blk.alloc_old | apply Blk.set_same | apply Blk.set_other)) | (show (_ : Nat) ≠ _; first | omega | (simp; done) | (simp; omega)) | ((simp only [List.setIfInBounds_toArray, List.set_cons_succ, List.set_cons_zero]); (with_reducible exact rfl)) | (with_reducible exact rfl) | (show (_ : Array Value) = _; exact rfl)))) hb1 (by first | (simp; done) | omega | (simp; omega))
    have Q1 : Blk w1 (w.heap.size + 1) #[.int .u64 q0, .int .u64 q1, .int .u64 q2] 54 := Blk.below (by (repeat' (first | (with_reducible (first | assumption | exact Blk.alloc_new _ _ _ (by first | rfl | (simp; done) | omega) | apply Blk.drewN | apply Blk.drew | apply Blk.alloc_old | apply Blk.set_same | apply Blk.set_other)) | (show (_ : Nat) ≠ _; first | omega | (simp; done) | (simp; omega)) | ((simp only [List.setIfInBounds_toArray, List.set_cons_succ, List.set_cons_zero]); (with_reducible exact rfl)) | (with_reducible exact rfl) | (show (_ : Array Value) = _; exact rfl)))) hb1 (by first | (simp; done) | omega | (simp; omega))
    have g1 : Below w.heap.size w w1 := by refine Below.trans ?_ (hb1.mono ?_) <;> (repeat' (first | (with_reducible (first | exact Below.refl _ _ | assumption | refine below_drewN ?_ _ | refine Below.drew ?_ | refine Below.alloc ?_ ?_ _ | refine Below.setCell ?_ ?_ _)) | go_size))
    have hz1 := hb1.size
    (try simp at hz1)
    clear hb1
    replace cC := C1.cell
    replace fC := C1.frozen
    replace zC := C1.size
    replace cQ := Q1.cell
    replace fQ := Q1.frozen
    replace zQ := Q1.size
    skip
    go_wp2_with fail
    refine (inner_any q1 q2 x _ Hx.out).mono ?_
    rintro e w5 ⟨rfl, hb5⟩
    have C5 : Blk w5 (w.heap.size) #[.int .u64 m, .int .u64 d, .int .u64 n] 32 := Blk.below (by (repeat' (first | (with_reducible (first | assumption | exact Blk.alloc_new _ _ _ (by first | rfl | (simp; done) | omega) | apply Blk.drewN | apply Blk.drew | apply Blk.alloc_old | apply Blk.set_same | apply Blk.set_other)) | (show (_ : Nat) ≠ _; first | omega | (simp; done) | (simp; omega)) | ((simp only [List.setIfInBounds_toArray, List.set_cons_succ, List.set_cons_zero]); (with_reducible exact rfl)) | (with_reducible exact rfl) | (show (_ : Array Value) = _; exact rfl)))) hb5 (by first | (simp; done) | omega | (simp; omega))
    have Q5 : Blk w5 (w.heap.size + 1) #[.int .u64 q0, .int .u64 q1, .int .u64 q2] 54 := Blk.below (by (repeat' (first | (with_reducible (first | assumption | exact Blk.alloc_new _ _ _ (by first | rfl | (simp; done) | omega) | apply Blk.drewN | apply Blk.drew | apply Blk.alloc_old | apply Blk.set_same | apply Blk.set_other)) | (show (_ : Nat) ≠ _; first | omega | (simp; done) | (simp; omega)) | ((simp only [List.setIfInBounds_toArray, List.set_cons_succ, List.set_cons_zero]); (with_reducible exact rfl)) | (with_reducible exact rfl) | (show (_ : Array Value) = _; exact rfl)))) hb5 (by first | (simp; done) | omega | (simp; omega))
    have g5 : Below w.heap.size w w5 := by refine Below.trans ?_ (hb5.mono ?_) <;> (repeat' (first | (with_reducible (first | exact Below.refl _ _ | assumption | refine below_drewN ?_ _ | refine Below.drew ?_ | refine Below.alloc ?_ ?_ _ | refine Below.setCell ?_ ?_ _)) | go_size))
    have hz5 := hb5.size
    (try simp at hz5)
    clear hb5
    replace cC := C5.cell
    replace fC := C5.frozen
    replace zC := C5.size
    replace cQ := Q5.cell
    replace fQ := Q5.frozen
    replace zQ := Q5.size
    go_wp2_with fail
    refine (rmost_any m d n q0 L s z e _ hm.1 hd.1 hn.1 h0 hL Hs.out s1 Hf.out r Hr.out).mono ?_
    rintro e w6 ⟨rfl, hb6⟩
    have C6 : Blk w6 (w.heap.size) #[.int .u64 m, .int .u64 d, .int .u64 n] 32 := Blk.below (by (repeat' (first | (with_reducible (first | assumption | exact Blk.alloc_new _ _ _ (by first | rfl | (simp; done) | omega) | apply Blk.drewN | apply Blk.drew | apply Blk.alloc_old | apply Blk.set_same | apply Blk.set_other)) | (show (_ : Nat) ≠ _; first | omega | (simp; done) | (simp; omega)) | ((simp only [List.setIfInBounds_toArray, List.set_cons_succ, List.set_cons_zero]); (with_reducible exact rfl)) | (with_reducible exact rfl) | (show (_ : Array Value) = _; exact rfl)))) hb6 (by first | (simp; done) | omega | (simp; omega))
    have Q6 : Blk w6 (w.heap.size + 1) #[.int .u64 q0, .int .u64 q1, .int .u64 q2] 54 := Blk.below (by (repeat' (first | (with_reducible (first | assumption | exact Blk.alloc_new _ _ _ (by first | rfl | (simp; done) | omega) | apply Blk.drewN | apply Blk.drew | apply Blk.alloc_old | apply Blk.set_same | apply Blk.set_other)) | (show (_ : Nat) ≠ _; first | omega | (simp; done) | (simp; omega)) | ((simp only [List.setIfInBounds_toArray, List.set_cons_succ, List.set_cons_zero]); (with_reducible exact rfl)) | (with_reducible exact rfl) | (show (_ : Array Value) = _; exact rfl)))) hb6 (by first | (simp; done) | omega | (simp; omega))
    have g6 : Below w.heap.size w w6 := by refine Below.trans ?_ (hb6.mono ?_) <;> (repeat' (first | (with_reducible (first | exact Below.refl _ _ | assumption | refine below_drewN ?_ _ | refine Below.drew ?_ | refine Below.alloc ?_ ?_ _ | refine Below.setCell ?_ ?_ _)) | go_size))
    have hz6 := hb6.size
    (try simp at hz6)
    clear hb6
    replace cC := C6.cell
    replace fC := C6.frozen
    replace zC := C6.size
    replace cQ := Q6.cell
    replace fQ := Q6.frozen
    replace zQ := Q6.size
    go_wp2_with fail
    refine (sixty_true _).mono ?_
    rintro e w7 ⟨rfl, hb7⟩
    have g7 : Below w.heap.size w w7 := by refine Below.trans ?_ (hb7.mono ?_) <;> (repeat' (first | (with_reducible (first | exact Below.refl _ _ | assumption | refine below_drewN ?_ _ | refine Below.drew ?_ | refine Below.alloc ?_ ?_ _ | refine Below.setCell ?_ ?_ _)) | go_size))
    have hz7 := hb7.size
    (try simp at hz7)
    clear hb7
    go_wp2
    go_ret
    exact ⟨rfl, by (repeat' (first | (with_reducible (first | exact Below.refl _ _ | assumption | refine below_drewN ?_ _ | refine Below.drew ?_ | refine Below.alloc ?_ ?_ _ | refine Below.setCell ?_ ?_ _)) | go_size))⟩
  · have x2 : (x == q2) = true := beq_iff_eq.2 (by have := beq_eq_false_iff_ne.1 x1; omega)
    clear hx
    go_enter Try.func7, Try.ntmps7
    go_wp2_with fail
    refine (most_any m d n q0 L s z e _ hm.1 hd.1 hn.1 h0 hL Hs.out s1 Hf.out r Hr.out).mono ?_
    rintro e w1 ⟨rfl, hb1⟩
    have C1 : Blk w1 (w.heap.size) #[.int .u64 m, .int .u64 d, .int .u64 n] 32 := Blk.below (by (repeat' (first | (with_reducible (first | assumption | exact Blk.alloc_new _ _ _ (by first | rfl | (simp; done) | omega) | apply Blk.drewN | apply Blk.drew | apply Blk.alloc_old | apply Blk.set_same | apply Blk.set_other)) | (show (_ : Nat) ≠ _; first | omega | (simp; done) | (simp; omega)) | ((simp only [List.setIfInBounds_toArray, List.set_cons_succ, List.set_cons_zero]); (with_reducible exact rfl)) | (with_reducible exact rfl) | (show (_ : Array Value) = _; exact rfl)))) hb1 (by first | (simp; done) | omega | (simp; omega))
    have Q1 : Blk w1 (w.heap.size + 1) #[.int .u64 q0, .int .u64 q1, .int .u64 q2] 54 := Blk.below (by (repeat' (first | (with_reducible (first | assumption | exact Blk.alloc_new _ _ _ (by first | rfl | (simp; done) | omega) | apply Blk.drewN | apply Blk.drew | apply Blk.alloc_old | apply Blk.set_same | apply Blk.set_other)) | (show (_ : Nat) ≠ _; first | omega | (simp; done) | (simp; omega)) | ((simp only [List.setIfInBounds_toArray, List.set_cons_succ, List.set_cons_zero]); (with_reducible exact rfl)) | (with_reducible exact rfl) | (show (_ : Array Value) = _; exact rfl)))) hb1 (by first | (simp; done) | omega | (simp; omega))
    have g1 : Below w.heap.size w w1 := by refine Below.trans ?_ (hb1.mono ?_) <;> (repeat' (first | (with_reducible (first | exact Below.refl _ _ | assumption | refine below_drewN ?_ _ | refine Below.drew ?_ | refine Below.alloc ?_ ?_ _ | refine Below.setCell ?_ ?_ _)) | go_size))
    have hz1 := hb1.size
    (try simp at hz1)
    clear hb1
    replace cC := C1.cell
    replace fC := C1.frozen
    replace zC := C1.size
    replace cQ := Q1.cell
    replace fQ := Q1.frozen
    replace zQ := Q1.size
    skip
    go_wp2_with fail
    refine (inner_any q1 q2 x _ Hx.out).mono ?_
    rintro e w5 ⟨rfl, hb5⟩
    have C5 : Blk w5 (w.heap.size) #[.int .u64 m, .int .u64 d, .int .u64 n] 32 := Blk.below (by (repeat' (first | (with_reducible (first | assumption | exact Blk.alloc_new _ _ _ (by first | rfl | (simp; done) | omega) | apply Blk.drewN | apply Blk.drew | apply Blk.alloc_old | apply Blk.set_same | apply Blk.set_other)) | (show (_ : Nat) ≠ _; first | omega | (simp; done) | (simp; omega)) | ((simp only [List.setIfInBounds_toArray, List.set_cons_succ, List.set_cons_zero]); (with_reducible exact rfl)) | (with_reducible exact rfl) | (show (_ : Array Value) = _; exact rfl)))) hb5 (by first | (simp; done) | omega | (simp; omega))
    have Q5 : Blk w5 (w.heap.size + 1) #[.int .u64 q0, .int .u64 q1, .int .u64 q2] 54 := Blk.below (by (repeat' (first | (with_reducible (first | assumption | exact Blk.alloc_new _ _ _ (by first | rfl | (simp; done) | omega) | apply Blk.drewN | apply Blk.drew | apply Blk.alloc_old | apply Blk.set_same | apply Blk.set_other)) | (show (_ : Nat) ≠ _; first | omega | (simp; done) | (simp; omega)) | ((simp only [List.setIfInBounds_toArray, List.set_cons_succ, List.set_cons_zero]); (with_reducible exact rfl)) | (with_reducible exact rfl) | (show (_ : Array Value) = _; exact rfl)))) hb5 (by first | (simp; done) | omega | (simp; omega))
    have g5 : Below w.heap.size w w5 := by refine Below.trans ?_ (hb5.mono ?_) <;> (repeat' (first | (with_reducible (first | exact Below.refl _ _ | assumption | refine below_drewN ?_ _ | refine Below.drew ?_ | refine Below.alloc ?_ ?_ _ | refine Below.setCell ?_ ?_ _)) | go_size))
    have hz5 := hb5.size
    (try simp at hz5)
    clear hb5
    replace cC := C5.cell
    replace fC := C5.frozen
    replace zC := C5.size
    replace cQ := Q5.cell
    replace fQ := Q5.frozen
    replace zQ := Q5.size
    go_wp2_with fail
    refine (rmost_any m d n q0 L s z e _ hm.1 hd.1 hn.1 h0 hL Hs.out s1 Hf.out r Hr.out).mono ?_
    rintro e w6 ⟨rfl, hb6⟩
    have C6 : Blk w6 (w.heap.size) #[.int .u64 m, .int .u64 d, .int .u64 n] 32 := Blk.below (by (repeat' (first | (with_reducible (first | assumption | exact Blk.alloc_new _ _ _ (by first | rfl | (simp; done) | omega) | apply Blk.drewN | apply Blk.drew | apply Blk.alloc_old | apply Blk.set_same | apply Blk.set_other)) | (show (_ : Nat) ≠ _; first | omega | (simp; done) | (simp; omega)) | ((simp only [List.setIfInBounds_toArray, List.set_cons_succ, List.set_cons_zero]); (with_reducible exact rfl)) | (with_reducible exact rfl) | (show (_ : Array Value) = _; exact rfl)))) hb6 (by first | (simp; done) | omega | (simp; omega))
    have Q6 : Blk w6 (w.heap.size + 1) #[.int .u64 q0, .int .u64 q1, .int .u64 q2] 54 := Blk.below (by (repeat' (first | (with_reducible (first | assumption | exact Blk.alloc_new _ _ _ (by first | rfl | (simp; done) | omega) | apply Blk.drewN | apply Blk.drew | apply Blk.alloc_old | apply Blk.set_same | apply Blk.set_other)) | (show (_ : Nat) ≠ _; first | omega | (simp; done) | (simp; omega)) | ((simp only [List.setIfInBounds_toArray, List.set_cons_succ, List.set_cons_zero]); (with_reducible exact rfl)) | (with_reducible exact rfl) | (show (_ : Array Value) = _; exact rfl)))) hb6 (by first | (simp; done) | omega | (simp; omega))
    have g6 : Below w.heap.size w w6 := by refine Below.trans ?_ (hb6.mono ?_) <;> (repeat' (first | (with_reducible (first | exact Below.refl _ _ | assumption | refine below_drewN ?_ _ | refine Below.drew ?_ | refine Below.alloc ?_ ?_ _ | refine Below.setCell ?_ ?_ _)) | go_size))
    have hz6 := hb6.size
    (try simp at hz6)
    clear hb6
    replace cC := C6.cell
    replace fC := C6.frozen
    replace zC := C6.size
    replace cQ := Q6.cell
    replace fQ := Q6.frozen
    replace zQ := Q6.size
    go_wp2_with fail
    refine (sixty_true _).mono ?_
    rintro e w7 ⟨rfl, hb7⟩
    have g7 : Below w.heap.size w w7 := by refine Below.trans ?_ (hb7.mono ?_) <;> (repeat' (first | (with_reducible (first | exact Below.refl _ _ | assumption | refine below_drewN ?_ _ | refine Below.drew ?_ | refine Below.alloc ?_ ?_ _ | refine Below.setCell ?_ ?_ _)) | go_size))
    have hz7 := hb7.size
    (try simp at hz7)
    clear hb7
    go_wp2
    go_ret
    exact ⟨rfl, by (repeat' (first | (with_reducible (first | exact Below.refl _ _ | assumption | refine below_drewN ?_ _ | refine Below.drew ?_ | refine Below.alloc ?_ ?_ _ | refine Below.setCell ?_ ?_ _)) | go_size))⟩
set_option maxHeartbeats 4000000 in
theorem UM_a2 (m d n q0 q1 q2 L s z e r x s' z' e' r' : Int) (w : World) (hm : 0 ≤ m ∧ m ≤ 18446744073709551615) (hd : 0 ≤ d ∧ d ≤ 18446744073709551615) (hn : 0 ≤ n ∧ n ≤ 18446744073709551615) (h0 : 0 ≤ q0 ∧ q0 ≤ 18446744073709551615) (h1 : 0 ≤ q1 ∧ q1 ≤ 18446744073709551615) (h2 : 0 ≤ q2 ∧ q2 ≤ 18446744073709551615) (hL : -9223372036854775808 ≤ L ∧ L ≤ 9223372036854775807) (hs : sk m d n q0 = s) (s1 : In128 s) (hf : FlR s 65536 z e) (hr : min (s / 65536 + max L 0) 18446744073709551615 = r) (hx : max q1 q2 = x) (ha : q0 < 4611686018427387904) (ha2 : ¬ q1 < 4611686018427387904) :
    Calls Try.prog 7 #[.agg #[.int .u64 m, .int .u64 d, .int .u64 n], .agg #[.int .u64 q0, .int .u64 q1, .int .u64 q2], .int .i64 L] w fun e w' => e = .returned (.bool true) ∧ Below w.heap.size w w' := by
  have Hs := hide hs; have Hf := hide hf; have Hr := hide hr; have Hx := hide hx
  clear hs hf hr
  have ga : decide (q0 < 4611686018427387904) = true := decide_eq_true ha
  have gb : decide (q1 < 4611686018427387904) = false := decide_eq_false ha2
  have x1 : (x == q1) = true ∨ (x == q1) = false := by cases (x == q1) <;> simp
  have g1 : decide (q1 ≤ x) = true := decide_eq_true (by omega)
  have g2 : decide (q2 ≤ x) = true := decide_eq_true (by omega)
  have rr : (r == r) = true := by simp
  rcases x1 with x1 | x1
  · skip
    clear hx
    go_enter Try.func7, Try.ntmps7
    go_wp2_with fail
    refine (most_any m d n q0 L s z e _ hm.1 hd.1 hn.1 h0 hL Hs.out s1 Hf.out r Hr.out).mono ?_
    rintro e w1 ⟨rfl, hb1⟩
    have C1 : Blk w1 (w.heap.size) #[.int .u64 m, .int .u64 d, .int .u64 n] 32 := Blk.below (by (repeat' (first | (with_reducible (first | assumption | exact Blk.alloc_new _ _ _ (by first | rfl | (simp; done) | omega) | apply Blk.drewN | apply Blk.drew | apply Blk.alloc_old | apply Blk.set_same | apply Blk.set_other)) | (show (_ : Nat) ≠ _; first | omega | (simp; done) | (simp; omega)) | ((simp only [List.setIfInBounds_toArray, List.set_cons_succ, List.set_cons_zero]); (with_reducible exact rfl)) | (with_reducible exact rfl) | (show (_ : Array Value) = _; exact rfl)))) hb1 (by first | (simp; done) | omega | (simp; omega))
    have Q1 : Blk w1 (w.heap.size + 1) #[.int .u64 q0, .int .u64 q1, .int .u64 q2] 54 := Blk.below (by (repeat' (first | (with_reducible (first | assumption | exact Blk.alloc_new _ _ _ (by first | rfl | (simp; done) | omega) | apply Blk.drewN | apply Blk.drew | apply Blk.alloc_old | apply Blk.set_same | apply Blk.set_other)) | (show (_ : Nat) ≠ _; first | omega | (simp; done) | (simp; omega)) | ((simp only [List.setIfInBounds_toArray, List.set_cons_succ, List.set_cons_zero]); (with_reducible exact rfl)) | (with_reducible exact rfl) | (show (_ : Array Value) = _; exact rfl)))) hb1 (by first | (simp; done) | omega | (simp; omega))
    have g1 : Below w.heap.size w w1 := by refine Below.trans ?_ (hb1.mono ?_) <;> (repeat' (first | (with_reducible (first | exact Below.refl _ _ | assumption | refine below_drewN ?_ _ | refine Below.drew ?_ | refine Below.alloc ?_ ?_ _ | refine Below.setCell ?_ ?_ _)) | go_size))
    have hz1 := hb1.size
    (try simp at hz1)
    clear hb1
    replace cC := C1.cell
    replace fC := C1.frozen
    replace zC := C1.size
    replace cQ := Q1.cell
    replace fQ := Q1.frozen
    replace zQ := Q1.size
    skip
    go_wp2_with fail
    refine (inner_any q1 q2 x _ Hx.out).mono ?_
    rintro e w5 ⟨rfl, hb5⟩
    have C5 : Blk w5 (w.heap.size) #[.int .u64 m, .int .u64 d, .int .u64 n] 32 := Blk.below (by (repeat' (first | (with_reducible (first | assumption | exact Blk.alloc_new _ _ _ (by first | rfl | (simp; done) | omega) | apply Blk.drewN | apply Blk.drew | apply Blk.alloc_old | apply Blk.set_same | apply Blk.set_other)) | (show (_ : Nat) ≠ _; first | omega | (simp; done) | (simp; omega)) | ((simp only [List.setIfInBounds_toArray, List.set_cons_succ, List.set_cons_zero]); (with_reducible exact rfl)) | (with_reducible exact rfl) | (show (_ : Array Value) = _; exact rfl)))) hb5 (by first | (simp; done) | omega | (simp; omega))
    have Q5 : Blk w5 (w.heap.size + 1) #[.int .u64 q0, .int .u64 q1, .int .u64 q2] 54 := Blk.below (by (repeat' (first | (with_reducible (first | assumption | exact Blk.alloc_new _ _ _ (by first | rfl | (simp; done) | omega) | apply Blk.drewN | apply Blk.drew | apply Blk.alloc_old | apply Blk.set_same | apply Blk.set_other)) | (show (_ : Nat) ≠ _; first | omega | (simp; done) | (simp; omega)) | ((simp only [List.setIfInBounds_toArray, List.set_cons_succ, List.set_cons_zero]); (with_reducible exact rfl)) | (with_reducible exact rfl) | (show (_ : Array Value) = _; exact rfl)))) hb5 (by first | (simp; done) | omega | (simp; omega))
    have g5 : Below w.heap.size w w5 := by refine Below.trans ?_ (hb5.mono ?_) <;> (repeat' (first | (with_reducible (first | exact Below.refl _ _ | assumption | refine below_drewN ?_ _ | refine Below.drew ?_ | refine Below.alloc ?_ ?_ _ | refine Below.setCell ?_ ?_ _)) | go_size))
    have hz5 := hb5.size
    (try simp at hz5)
    clear hb5
    replace cC := C5.cell
    replace fC := C5.frozen
    replace zC := C5.size
    replace cQ := Q5.cell
    replace fQ := Q5.frozen
    replace zQ := Q5.size
    go_wp2_with fail
    refine (rmost_any m d n q0 L s z e _ hm.1 hd.1 hn.1 h0 hL Hs.out s1 Hf.out r Hr.out).mono ?_
    rintro e w6 ⟨rfl, hb6⟩
    have C6 : Blk w6 (w.heap.size) #[.int .u64 m, .int .u64 d, .int .u64 n] 32 := Blk.below (by (repeat' (first | (with_reducible (first | assumption | exact Blk.alloc_new _ _ _ (by first | rfl | (simp; done) | omega) | apply Blk.drewN | apply Blk.drew | apply Blk.alloc_old | apply Blk.set_same | apply Blk.set_other)) | (show (_ : Nat) ≠ _; first | omega | (simp; done) | (simp; omega)) | ((simp only [List.setIfInBounds_toArray, List.set_cons_succ, List.set_cons_zero]); (with_reducible exact rfl)) | (with_reducible exact rfl) | (show (_ : Array Value) = _; exact rfl)))) hb6 (by first | (simp; done) | omega | (simp; omega))
    have Q6 : Blk w6 (w.heap.size + 1) #[.int .u64 q0, .int .u64 q1, .int .u64 q2] 54 := Blk.below (by (repeat' (first | (with_reducible (first | assumption | exact Blk.alloc_new _ _ _ (by first | rfl | (simp; done) | omega) | apply Blk.drewN | apply Blk.drew | apply Blk.alloc_old | apply Blk.set_same | apply Blk.set_other)) | (show (_ : Nat) ≠ _; first | omega | (simp; done) | (simp; omega)) | ((simp only [List.setIfInBounds_toArray, List.set_cons_succ, List.set_cons_zero]); (with_reducible exact rfl)) | (with_reducible exact rfl) | (show (_ : Array Value) = _; exact rfl)))) hb6 (by first | (simp; done) | omega | (simp; omega))
    have g6 : Below w.heap.size w w6 := by refine Below.trans ?_ (hb6.mono ?_) <;> (repeat' (first | (with_reducible (first | exact Below.refl _ _ | assumption | refine below_drewN ?_ _ | refine Below.drew ?_ | refine Below.alloc ?_ ?_ _ | refine Below.setCell ?_ ?_ _)) | go_size))
    have hz6 := hb6.size
    (try simp at hz6)
    clear hb6
    replace cC := C6.cell
    replace fC := C6.frozen
    replace zC := C6.size
    replace cQ := Q6.cell
    replace fQ := Q6.frozen
    replace zQ := Q6.size
    go_wp2_with fail
    refine (sixty_true _).mono ?_
    rintro e w7 ⟨rfl, hb7⟩
    have g7 : Below w.heap.size w w7 := by refine Below.trans ?_ (hb7.mono ?_) <;> (repeat' (first | (with_reducible (first | exact Below.refl _ _ | assumption | refine below_drewN ?_ _ | refine Below.drew ?_ | refine Below.alloc ?_ ?_ _ | refine Below.setCell ?_ ?_ _)) | go_size))
    have hz7 := hb7.size
    (try simp at hz7)
    clear hb7
    go_wp2
    go_ret
    exact ⟨rfl, by (repeat' (first | (with_reducible (first | exact Below.refl _ _ | assumption | refine below_drewN ?_ _ | refine Below.drew ?_ | refine Below.alloc ?_ ?_ _ | refine Below.setCell ?_ ?_ _)) | go_size))⟩
  · have x2 : (x == q2) = true := beq_iff_eq.2 (by have := beq_eq_false_iff_ne.1 x1; omega)
    clear hx
    go_enter Try.func7, Try.ntmps7
    go_wp2_with fail
    refine (most_any m d n q0 L s z e _ hm.1 hd.1 hn.1 h0 hL Hs.out s1 Hf.out r Hr.out).mono ?_
    rintro e w1 ⟨rfl, hb1⟩
    have C1 : Blk w1 (w.heap.size) #[.int .u64 m, .int .u64 d, .int .u64 n] 32 := Blk.below (by (repeat' (first | (with_reducible (first | assumption | exact Blk.alloc_new _ _ _ (by first | rfl | (simp; done) | omega) | apply Blk.drewN | apply Blk.drew | apply Blk.alloc_old | apply Blk.set_same | apply Blk.set_other)) | (show (_ : Nat) ≠ _; first | omega | (simp; done) | (simp; omega)) | ((simp only [List.setIfInBounds_toArray, List.set_cons_succ, List.set_cons_zero]); (with_reducible exact rfl)) | (with_reducible exact rfl) | (show (_ : Array Value) = _; exact rfl)))) hb1 (by first | (simp; done) | omega | (simp; omega))
    have Q1 : Blk w1 (w.heap.size + 1) #[.int .u64 q0, .int .u64 q1, .int .u64 q2] 54 := Blk.below (by (repeat' (first | (with_reducible (first | assumption | exact Blk.alloc_new _ _ _ (by first | rfl | (simp; done) | omega) | apply Blk.drewN | apply Blk.drew | apply Blk.alloc_old | apply Blk.set_same | apply Blk.set_other)) | (show (_ : Nat) ≠ _; first | omega | (simp; done) | (simp; omega)) | ((simp only [List.setIfInBounds_toArray, List.set_cons_succ, List.set_cons_zero]); (with_reducible exact rfl)) | (with_reducible exact rfl) | (show (_ : Array Value) = _; exact rfl)))) hb1 (by first | (simp; done) | omega | (simp; omega))
    have g1 : Below w.heap.size w w1 := by refine Below.trans ?_ (hb1.mono ?_) <;> (repeat' (first | (with_reducible (first | exact Below.refl _ _ | assumption | refine below_drewN ?_ _ | refine Below.drew ?_ | refine Below.alloc ?_ ?_ _ | refine Below.setCell ?_ ?_ _)) | go_size))
    have hz1 := hb1.size
    (try simp at hz1)
    clear hb1
    replace cC := C1.cell
    replace fC := C1.frozen
    replace zC := C1.size
    replace cQ := Q1.cell
    replace fQ := Q1.frozen
    replace zQ := Q1.size
    skip
    go_wp2_with fail
    refine (inner_any q1 q2 x _ Hx.out).mono ?_
    rintro e w5 ⟨rfl, hb5⟩
    have C5 : Blk w5 (w.heap.size) #[.int .u64 m, .int .u64 d, .int .u64 n] 32 := Blk.below (by (repeat' (first | (with_reducible (first | assumption | exact Blk.alloc_new _ _ _ (by first | rfl | (simp; done) | omega) | apply Blk.drewN | apply Blk.drew | apply Blk.alloc_old | apply Blk.set_same | apply Blk.set_other)) | (show (_ : Nat) ≠ _; first | omega | (simp; done) | (simp; omega)) | ((simp only [List.setIfInBounds_toArray, List.set_cons_succ, List.set_cons_zero]); (with_reducible exact rfl)) | (with_reducible exact rfl) | (show (_ : Array Value) = _; exact rfl)))) hb5 (by first | (simp; done) | omega | (simp; omega))
    have Q5 : Blk w5 (w.heap.size + 1) #[.int .u64 q0, .int .u64 q1, .int .u64 q2] 54 := Blk.below (by (repeat' (first | (with_reducible (first | assumption | exact Blk.alloc_new _ _ _ (by first | rfl | (simp; done) | omega) | apply Blk.drewN | apply Blk.drew | apply Blk.alloc_old | apply Blk.set_same | apply Blk.set_other)) | (show (_ : Nat) ≠ _; first | omega | (simp; done) | (simp; omega)) | ((simp only [List.setIfInBounds_toArray, List.set_cons_succ, List.set_cons_zero]); (with_reducible exact rfl)) | (with_reducible exact rfl) | (show (_ : Array Value) = _; exact rfl)))) hb5 (by first | (simp; done) | omega | (simp; omega))
    have g5 : Below w.heap.size w w5 := by refine Below.trans ?_ (hb5.mono ?_) <;> (repeat' (first | (with_reducible (first | exact Below.refl _ _ | assumption | refine below_drewN ?_ _ | refine Below.drew ?_ | refine Below.alloc ?_ ?_ _ | refine Below.setCell ?_ ?_ _)) | go_size))
    have hz5 := hb5.size
    (try simp at hz5)
    clear hb5
    replace cC := C5.cell
    replace fC := C5.frozen
    replace zC := C5.size
    replace cQ := Q5.cell
    replace fQ := Q5.frozen
    replace zQ := Q5.size
    go_wp2_with fail
    refine (rmost_any m d n q0 L s z e _ hm.1 hd.1 hn.1 h0 hL Hs.out s1 Hf.out r Hr.out).mono ?_
    rintro e w6 ⟨rfl, hb6⟩
    have C6 : Blk w6 (w.heap.size) #[.int .u64 m, .int .u64 d, .int .u64 n] 32 := Blk.below (by (repeat' (first | (with_reducible (first | assumption | exact Blk.alloc_new _ _ _ (by first | rfl | (simp; done) | omega) | apply Blk.drewN | apply Blk.drew | apply Blk.alloc_old | apply Blk.set_same | apply Blk.set_other)) | (show (_ : Nat) ≠ _; first | omega | (simp; done) | (simp; omega)) | ((simp only [List.setIfInBounds_toArray, List.set_cons_succ, List.set_cons_zero]); (with_reducible exact rfl)) | (with_reducible exact rfl) | (show (_ : Array Value) = _; exact rfl)))) hb6 (by first | (simp; done) | omega | (simp; omega))
    have Q6 : Blk w6 (w.heap.size + 1) #[.int .u64 q0, .int .u64 q1, .int .u64 q2] 54 := Blk.below (by (repeat' (first | (with_reducible (first | assumption | exact Blk.alloc_new _ _ _ (by first | rfl | (simp; done) | omega) | apply Blk.drewN | apply Blk.drew | apply Blk.alloc_old | apply Blk.set_same | apply Blk.set_other)) | (show (_ : Nat) ≠ _; first | omega | (simp; done) | (simp; omega)) | ((simp only [List.setIfInBounds_toArray, List.set_cons_succ, List.set_cons_zero]); (with_reducible exact rfl)) | (with_reducible exact rfl) | (show (_ : Array Value) = _; exact rfl)))) hb6 (by first | (simp; done) | omega | (simp; omega))
    have g6 : Below w.heap.size w w6 := by refine Below.trans ?_ (hb6.mono ?_) <;> (repeat' (first | (with_reducible (first | exact Below.refl _ _ | assumption | refine below_drewN ?_ _ | refine Below.drew ?_ | refine Below.alloc ?_ ?_ _ | refine Below.setCell ?_ ?_ _)) | go_size))
    have hz6 := hb6.size
    (try simp at hz6)
    clear hb6
    replace cC := C6.cell
    replace fC := C6.frozen
    replace zC := C6.size
    replace cQ := Q6.cell
    replace fQ := Q6.frozen
    replace zQ := Q6.size
    go_wp2_with fail
    refine (sixty_true _).mono ?_
    rintro e w7 ⟨rfl, hb7⟩
    have g7 : Below w.heap.size w w7 := by refine Below.trans ?_ (hb7.mono ?_) <;> (repeat' (first | (with_reducible (first | exact Below.refl _ _ | assumption | refine below_drewN ?_ _ | refine Below.drew ?_ | refine Below.alloc ?_ ?_ _ | refine Below.setCell ?_ ?_ _)) | go_size))
    have hz7 := hb7.size
    (try simp at hz7)
    clear hb7
    go_wp2
    go_ret
    exact ⟨rfl, by (repeat' (first | (with_reducible (first | exact Below.refl _ _ | assumption | refine below_drewN ?_ _ | refine Below.drew ?_ | refine Below.alloc ?_ ?_ _ | refine Below.setCell ?_ ?_ _)) | go_size))⟩
set_option maxHeartbeats 4000000 in
theorem UM_b (m d n q0 q1 q2 L s z e r x s' z' e' r' : Int) (w : World) (hm : 0 ≤ m ∧ m ≤ 18446744073709551615) (hd : 0 ≤ d ∧ d ≤ 18446744073709551615) (hn : 0 ≤ n ∧ n ≤ 18446744073709551615) (h0 : 0 ≤ q0 ∧ q0 ≤ 18446744073709551615) (h1 : 0 ≤ q1 ∧ q1 ≤ 18446744073709551615) (h2 : 0 ≤ q2 ∧ q2 ≤ 18446744073709551615) (hL : -9223372036854775808 ≤ L ∧ L ≤ 9223372036854775807) (hs : sk m d n q0 = s) (s1 : In128 s) (hf : FlR s 65536 z e) (hr : min (s / 65536 + max L 0) 18446744073709551615 = r) (hx : max q1 q2 = x) (ha : q0 < 4611686018427387904 ∧ q1 < 4611686018427387904) (hs' : sk m d n (q0 + q1) = s') (s1' : In128 s') (hf' : FlR s' 65536 z' e') (hr' : min (s' / 65536 + max L 0) 18446744073709551615 = r') (hrr : r ≤ r') :
    Calls Try.prog 7 #[.agg #[.int .u64 m, .int .u64 d, .int .u64 n], .agg #[.int .u64 q0, .int .u64 q1, .int .u64 q2], .int .i64 L] w fun e w' => e = .returned (.bool true) ∧ Below w.heap.size w w' := by
  have Hs := hide hs; have Hf := hide hf; have Hr := hide hr; have Hx := hide hx
  clear hs hf hr
  have Hs' := hide hs'; have Hf' := hide hf'; have Hr' := hide hr'; clear hs' hf' hr'
  have gb : decide (q0 < 4611686018427387904) = true := decide_eq_true ha.1
  have gc : decide (q1 < 4611686018427387904) = true := decide_eq_true ha.2
  have gd : decide (r' < r) = false := decide_eq_false (by omega)
  have x1 : (x == q1) = true ∨ (x == q1) = false := by cases (x == q1) <;> simp
  have g1 : decide (q1 ≤ x) = true := decide_eq_true (by omega)
  have g2 : decide (q2 ≤ x) = true := decide_eq_true (by omega)
  have rr : (r == r) = true := by simp
  rcases x1 with x1 | x1
  · skip
    clear hx
    go_enter Try.func7, Try.ntmps7
    go_wp2_with fail
    refine (most_any m d n q0 L s z e _ hm.1 hd.1 hn.1 h0 hL Hs.out s1 Hf.out r Hr.out).mono ?_
    rintro e w1 ⟨rfl, hb1⟩
    have C1 : Blk w1 (w.heap.size) #[.int .u64 m, .int .u64 d, .int .u64 n] 32 := Blk.below (by (repeat' (first | (with_reducible (first | assumption | exact Blk.alloc_new _ _ _ (by first | rfl | (simp; done) | omega) | apply Blk.drewN | apply Blk.drew | apply Blk.alloc_old | apply Blk.set_same | apply Blk.set_other)) | (show (_ : Nat) ≠ _; first | omega | (simp; done) | (simp; omega)) | ((simp only [List.setIfInBounds_toArray, List.set_cons_succ, List.set_cons_zero]); (with_reducible exact rfl)) | (with_reducible exact rfl) | (show (_ : Array Value) = _; exact rfl)))) hb1 (by first | (simp; done) | omega | (simp; omega))
    have Q1 : Blk w1 (w.heap.size + 1) #[.int .u64 q0, .int .u64 q1, .int .u64 q2] 54 := Blk.below (by (repeat' (first | (with_reducible (first | assumption | exact Blk.alloc_new _ _ _ (by first | rfl | (simp; done) | omega) | apply Blk.drewN | apply Blk.drew | apply Blk.alloc_old | apply Blk.set_same | apply Blk.set_other)) | (show (_ : Nat) ≠ _; first | omega | (simp; done) | (simp; omega)) | ((simp only [List.setIfInBounds_toArray, List.set_cons_succ, List.set_cons_zero]); (with_reducible exact rfl)) | (with_reducible exact rfl) | (show (_ : Array Value) = _; exact rfl)))) hb1 (by first | (simp; done) | omega | (simp; omega))
    have g1 : Below w.heap.size w w1 := by refine Below.trans ?_ (hb1.mono ?_) <;> (repeat' (first | (with_reducible (first | exact Below.refl _ _ | assumption | refine below_drewN ?_ _ | refine Below.drew ?_ | refine Below.alloc ?_ ?_ _ | refine Below.setCell ?_ ?_ _)) | go_size))
    have hz1 := hb1.size
    (try simp at hz1)
    clear hb1
    replace cC := C1.cell
    replace fC := C1.frozen
    replace zC := C1.size
    replace cQ := Q1.cell
    replace fQ := Q1.frozen
    replace zQ := Q1.size
    go_wp2_with fail
    refine (most_any m d n (q0 + q1) L s' z' e' _ hm.1 hd.1 hn.1 ⟨by omega, by omega⟩ hL Hs'.out s1' Hf'.out r' Hr'.out).mono ?_
    rintro e w3 ⟨rfl, hb3⟩
    have C3 : Blk w3 (w.heap.size) #[.int .u64 m, .int .u64 d, .int .u64 n] 32 := Blk.below (by (repeat' (first | (with_reducible (first | assumption | exact Blk.alloc_new _ _ _ (by first | rfl | (simp; done) | omega) | apply Blk.drewN | apply Blk.drew | apply Blk.alloc_old | apply Blk.set_same | apply Blk.set_other)) | (show (_ : Nat) ≠ _; first | omega | (simp; done) | (simp; omega)) | ((simp only [List.setIfInBounds_toArray, List.set_cons_succ, List.set_cons_zero]); (with_reducible exact rfl)) | (with_reducible exact rfl) | (show (_ : Array Value) = _; exact rfl)))) hb3 (by first | (simp; done) | omega | (simp; omega))
    have Q3 : Blk w3 (w.heap.size + 1) #[.int .u64 q0, .int .u64 q1, .int .u64 q2] 54 := Blk.below (by (repeat' (first | (with_reducible (first | assumption | exact Blk.alloc_new _ _ _ (by first | rfl | (simp; done) | omega) | apply Blk.drewN | apply Blk.drew | apply Blk.alloc_old | apply Blk.set_same | apply Blk.set_other)) | (show (_ : Nat) ≠ _; first | omega | (simp; done) | (simp; omega)) | ((simp only [List.setIfInBounds_toArray, List.set_cons_succ, List.set_cons_zero]); (with_reducible exact rfl)) | (with_reducible exact rfl) | (show (_ : Array Value) = _; exact rfl)))) hb3 (by first | (simp; done) | omega | (simp; omega))
    have g3 : Below w.heap.size w w3 := by refine Below.trans ?_ (hb3.mono ?_) <;> (repeat' (first | (with_reducible (first | exact Below.refl _ _ | assumption | refine below_drewN ?_ _ | refine Below.drew ?_ | refine Below.alloc ?_ ?_ _ | refine Below.setCell ?_ ?_ _)) | go_size))
    have hz3 := hb3.size
    (try simp at hz3)
    clear hb3
    replace cC := C3.cell
    replace fC := C3.frozen
    replace zC := C3.size
    replace cQ := Q3.cell
    replace fQ := Q3.frozen
    replace zQ := Q3.size
    go_wp2_with fail
    refine (inner_any q1 q2 x _ Hx.out).mono ?_
    rintro e w5 ⟨rfl, hb5⟩
    have C5 : Blk w5 (w.heap.size) #[.int .u64 m, .int .u64 d, .int .u64 n] 32 := Blk.below (by (repeat' (first | (with_reducible (first | assumption | exact Blk.alloc_new _ _ _ (by first | rfl | (simp; done) | omega) | apply Blk.drewN | apply Blk.drew | apply Blk.alloc_old | apply Blk.set_same | apply Blk.set_other)) | (show (_ : Nat) ≠ _; first | omega | (simp; done) | (simp; omega)) | ((simp only [List.setIfInBounds_toArray, List.set_cons_succ, List.set_cons_zero]); (with_reducible exact rfl)) | (with_reducible exact rfl) | (show (_ : Array Value) = _; exact rfl)))) hb5 (by first | (simp; done) | omega | (simp; omega))
    have Q5 : Blk w5 (w.heap.size + 1) #[.int .u64 q0, .int .u64 q1, .int .u64 q2] 54 := Blk.below (by (repeat' (first | (with_reducible (first | assumption | exact Blk.alloc_new _ _ _ (by first | rfl | (simp; done) | omega) | apply Blk.drewN | apply Blk.drew | apply Blk.alloc_old | apply Blk.set_same | apply Blk.set_other)) | (show (_ : Nat) ≠ _; first | omega | (simp; done) | (simp; omega)) | ((simp only [List.setIfInBounds_toArray, List.set_cons_succ, List.set_cons_zero]); (with_reducible exact rfl)) | (with_reducible exact rfl) | (show (_ : Array Value) = _; exact rfl)))) hb5 (by first | (simp; done) | omega | (simp; omega))
    have g5 : Below w.heap.size w w5 := by refine Below.trans ?_ (hb5.mono ?_) <;> (repeat' (first | (with_reducible (first | exact Below.refl _ _ | assumption | refine below_drewN ?_ _ | refine Below.drew ?_ | refine Below.alloc ?_ ?_ _ | refine Below.setCell ?_ ?_ _)) | go_size))
    have hz5 := hb5.size
    (try simp at hz5)
    clear hb5
    replace cC := C5.cell
    replace fC := C5.frozen
    replace zC := C5.size
    replace cQ := Q5.cell
    replace fQ := Q5.frozen
    replace zQ := Q5.size
    go_wp2_with fail
    refine (rmost_any m d n q0 L s z e _ hm.1 hd.1 hn.1 h0 hL Hs.out s1 Hf.out r Hr.out).mono ?_
    rintro e w6 ⟨rfl, hb6⟩
    have C6 : Blk w6 (w.heap.size) #[.int .u64 m, .int .u64 d, .int .u64 n] 32 := Blk.below (by (repeat' (first | (with_reducible (first | assumption | exact Blk.alloc_new _ _ _ (by first | rfl | (simp; done) | omega) | apply Blk.drewN | apply Blk.drew | apply Blk.alloc_old | apply Blk.set_same | apply Blk.set_other)) | (show (_ : Nat) ≠ _; first | omega | (simp; done) | (simp; omega)) | ((simp only [List.setIfInBounds_toArray, List.set_cons_succ, List.set_cons_zero]); (with_reducible exact rfl)) | (with_reducible exact rfl) | (show (_ : Array Value) = _; exact rfl)))) hb6 (by first | (simp; done) | omega | (simp; omega))
    have Q6 : Blk w6 (w.heap.size + 1) #[.int .u64 q0, .int .u64 q1, .int .u64 q2] 54 := Blk.below (by (repeat' (first | (with_reducible (first | assumption | exact Blk.alloc_new _ _ _ (by first | rfl | (simp; done) | omega) | apply Blk.drewN | apply Blk.drew | apply Blk.alloc_old | apply Blk.set_same | apply Blk.set_other)) | (show (_ : Nat) ≠ _; first | omega | (simp; done) | (simp; omega)) | ((simp only [List.setIfInBounds_toArray, List.set_cons_succ, List.set_cons_zero]); (with_reducible exact rfl)) | (with_reducible exact rfl) | (show (_ : Array Value) = _; exact rfl)))) hb6 (by first | (simp; done) | omega | (simp; omega))
    have g6 : Below w.heap.size w w6 := by refine Below.trans ?_ (hb6.mono ?_) <;> (repeat' (first | (with_reducible (first | exact Below.refl _ _ | assumption | refine below_drewN ?_ _ | refine Below.drew ?_ | refine Below.alloc ?_ ?_ _ | refine Below.setCell ?_ ?_ _)) | go_size))
    have hz6 := hb6.size
    (try simp at hz6)
    clear hb6
    replace cC := C6.cell
    replace fC := C6.frozen
    replace zC := C6.size
    replace cQ := Q6.cell
    replace fQ := Q6.frozen
    replace zQ := Q6.size
    go_wp2_with fail
    refine (sixty_true _).mono ?_
    rintro e w7 ⟨rfl, hb7⟩
    have g7 : Below w.heap.size w w7 := by refine Below.trans ?_ (hb7.mono ?_) <;> (repeat' (first | (with_reducible (first | exact Below.refl _ _ | assumption | refine below_drewN ?_ _ | refine Below.drew ?_ | refine Below.alloc ?_ ?_ _ | refine Below.setCell ?_ ?_ _)) | go_size))
    have hz7 := hb7.size
    (try simp at hz7)
    clear hb7
    go_wp2
    go_ret
    exact ⟨rfl, by (repeat' (first | (with_reducible (first | exact Below.refl _ _ | assumption | refine below_drewN ?_ _ | refine Below.drew ?_ | refine Below.alloc ?_ ?_ _ | refine Below.setCell ?_ ?_ _)) | go_size))⟩
  · have x2 : (x == q2) = true := beq_iff_eq.2 (by have := beq_eq_false_iff_ne.1 x1; omega)
    clear hx
    go_enter Try.func7, Try.ntmps7
    go_wp2_with fail
    refine (most_any m d n q0 L s z e _ hm.1 hd.1 hn.1 h0 hL Hs.out s1 Hf.out r Hr.out).mono ?_
    rintro e w1 ⟨rfl, hb1⟩
    have C1 : Blk w1 (w.heap.size) #[.int .u64 m, .int .u64 d, .int .u64 n] 32 := Blk.below (by (repeat' (first | (with_reducible (first | assumption | exact Blk.alloc_new _ _ _ (by first | rfl | (simp; done) | omega) | apply Blk.drewN | apply Blk.drew | apply Blk.alloc_old | apply Blk.set_same | apply Blk.set_other)) | (show (_ : Nat) ≠ _; first | omega | (simp; done) | (simp; omega)) | ((simp only [List.setIfInBounds_toArray, List.set_cons_succ, List.set_cons_zero]); (with_reducible exact rfl)) | (with_reducible exact rfl) | (show (_ : Array Value) = _; exact rfl)))) hb1 (by first | (simp; done) | omega | (simp; omega))
    have Q1 : Blk w1 (w.heap.size + 1) #[.int .u64 q0, .int .u64 q1, .int .u64 q2] 54 := Blk.below (by (repeat' (first | (with_reducible (first | assumption | exact Blk.alloc_new _ _ _ (by first | rfl | (simp; done) | omega) | apply Blk.drewN | apply Blk.drew | apply Blk.alloc_old | apply Blk.set_same | apply Blk.set_other)) | (show (_ : Nat) ≠ _; first | omega | (simp; done) | (simp; omega)) | ((simp only [List.setIfInBounds_toArray, List.set_cons_succ, List.set_cons_zero]); (with_reducible exact rfl)) | (with_reducible exact rfl) | (show (_ : Array Value) = _; exact rfl)))) hb1 (by first | (simp; done) | omega | (simp; omega))
    have g1 : Below w.heap.size w w1 := by refine Below.trans ?_ (hb1.mono ?_) <;> (repeat' (first | (with_reducible (first | exact Below.refl _ _ | assumption | refine below_drewN ?_ _ | refine Below.drew ?_ | refine Below.alloc ?_ ?_ _ | refine Below.setCell ?_ ?_ _)) | go_size))
    have hz1 := hb1.size
    (try simp at hz1)
    clear hb1
    replace cC := C1.cell
    replace fC := C1.frozen
    replace zC := C1.size
    replace cQ := Q1.cell
    replace fQ := Q1.frozen
    replace zQ := Q1.size
    go_wp2_with fail
    refine (most_any m d n (q0 + q1) L s' z' e' _ hm.1 hd.1 hn.1 ⟨by omega, by omega⟩ hL Hs'.out s1' Hf'.out r' Hr'.out).mono ?_
    rintro e w3 ⟨rfl, hb3⟩
    have C3 : Blk w3 (w.heap.size) #[.int .u64 m, .int .u64 d, .int .u64 n] 32 := Blk.below (by (repeat' (first | (with_reducible (first | assumption | exact Blk.alloc_new _ _ _ (by first | rfl | (simp; done) | omega) | apply Blk.drewN | apply Blk.drew | apply Blk.alloc_old | apply Blk.set_same | apply Blk.set_other)) | (show (_ : Nat) ≠ _; first | omega | (simp; done) | (simp; omega)) | ((simp only [List.setIfInBounds_toArray, List.set_cons_succ, List.set_cons_zero]); (with_reducible exact rfl)) | (with_reducible exact rfl) | (show (_ : Array Value) = _; exact rfl)))) hb3 (by first | (simp; done) | omega | (simp; omega))
    have Q3 : Blk w3 (w.heap.size + 1) #[.int .u64 q0, .int .u64 q1, .int .u64 q2] 54 := Blk.below (by (repeat' (first | (with_reducible (first | assumption | exact Blk.alloc_new _ _ _ (by first | rfl | (simp; done) | omega) | apply Blk.drewN | apply Blk.drew | apply Blk.alloc_old | apply Blk.set_same | apply Blk.set_other)) | (show (_ : Nat) ≠ _; first | omega | (simp; done) | (simp; omega)) | ((simp only [List.setIfInBounds_toArray, List.set_cons_succ, List.set_cons_zero]); (with_reducible exact rfl)) | (with_reducible exact rfl) | (show (_ : Array Value) = _; exact rfl)))) hb3 (by first | (simp; done) | omega | (simp; omega))
    have g3 : Below w.heap.size w w3 := by refine Below.trans ?_ (hb3.mono ?_) <;> (repeat' (first | (with_reducible (first | exact Below.refl _ _ | assumption | refine below_drewN ?_ _ | refine Below.drew ?_ | refine Below.alloc ?_ ?_ _ | refine Below.setCell ?_ ?_ _)) | go_size))
    have hz3 := hb3.size
    (try simp at hz3)
    clear hb3
    replace cC := C3.cell
    replace fC := C3.frozen
    replace zC := C3.size
    replace cQ := Q3.cell
    replace fQ := Q3.frozen
    replace zQ := Q3.size
    go_wp2_with fail
    refine (inner_any q1 q2 x _ Hx.out).mono ?_
    rintro e w5 ⟨rfl, hb5⟩
    have C5 : Blk w5 (w.heap.size) #[.int .u64 m, .int .u64 d, .int .u64 n] 32 := Blk.below (by (repeat' (first | (with_reducible (first | assumption | exact Blk.alloc_new _ _ _ (by first | rfl | (simp; done) | omega) | apply Blk.drewN | apply Blk.drew | apply Blk.alloc_old | apply Blk.set_same | apply Blk.set_other)) | (show (_ : Nat) ≠ _; first | omega | (simp; done) | (simp; omega)) | ((simp only [List.setIfInBounds_toArray, List.set_cons_succ, List.set_cons_zero]); (with_reducible exact rfl)) | (with_reducible exact rfl) | (show (_ : Array Value) = _; exact rfl)))) hb5 (by first | (simp; done) | omega | (simp; omega))
    have Q5 : Blk w5 (w.heap.size + 1) #[.int .u64 q0, .int .u64 q1, .int .u64 q2] 54 := Blk.below (by (repeat' (first | (with_reducible (first | assumption | exact Blk.alloc_new _ _ _ (by first | rfl | (simp; done) | omega) | apply Blk.drewN | apply Blk.drew | apply Blk.alloc_old | apply Blk.set_same | apply Blk.set_other)) | (show (_ : Nat) ≠ _; first | omega | (simp; done) | (simp; omega)) | ((simp only [List.setIfInBounds_toArray, List.set_cons_succ, List.set_cons_zero]); (with_reducible exact rfl)) | (with_reducible exact rfl) | (show (_ : Array Value) = _; exact rfl)))) hb5 (by first | (simp; done) | omega | (simp; omega))
    have g5 : Below w.heap.size w w5 := by refine Below.trans ?_ (hb5.mono ?_) <;> (repeat' (first | (with_reducible (first | exact Below.refl _ _ | assumption | refine below_drewN ?_ _ | refine Below.drew ?_ | refine Below.alloc ?_ ?_ _ | refine Below.setCell ?_ ?_ _)) | go_size))
    have hz5 := hb5.size
    (try simp at hz5)
    clear hb5
    replace cC := C5.cell
    replace fC := C5.frozen
    replace zC := C5.size
    replace cQ := Q5.cell
    replace fQ := Q5.frozen
    replace zQ := Q5.size
    go_wp2_with fail
    refine (rmost_any m d n q0 L s z e _ hm.1 hd.1 hn.1 h0 hL Hs.out s1 Hf.out r Hr.out).mono ?_
    rintro e w6 ⟨rfl, hb6⟩
    have C6 : Blk w6 (w.heap.size) #[.int .u64 m, .int .u64 d, .int .u64 n] 32 := Blk.below (by (repeat' (first | (with_reducible (first | assumption | exact Blk.alloc_new _ _ _ (by first | rfl | (simp; done) | omega) | apply Blk.drewN | apply Blk.drew | apply Blk.alloc_old | apply Blk.set_same | apply Blk.set_other)) | (show (_ : Nat) ≠ _; first | omega | (simp; done) | (simp; omega)) | ((simp only [List.setIfInBounds_toArray, List.set_cons_succ, List.set_cons_zero]); (with_reducible exact rfl)) | (with_reducible exact rfl) | (show (_ : Array Value) = _; exact rfl)))) hb6 (by first | (simp; done) | omega | (simp; omega))
    have Q6 : Blk w6 (w.heap.size + 1) #[.int .u64 q0, .int .u64 q1, .int .u64 q2] 54 := Blk.below (by (repeat' (first | (with_reducible (first | assumption | exact Blk.alloc_new _ _ _ (by first | rfl | (simp; done) | omega) | apply Blk.drewN | apply Blk.drew | apply Blk.alloc_old | apply Blk.set_same | apply Blk.set_other)) | (show (_ : Nat) ≠ _; first | omega | (simp; done) | (simp; omega)) | ((simp only [List.setIfInBounds_toArray, List.set_cons_succ, List.set_cons_zero]); (with_reducible exact rfl)) | (with_reducible exact rfl) | (show (_ : Array Value) = _; exact rfl)))) hb6 (by first | (simp; done) | omega | (simp; omega))
    have g6 : Below w.heap.size w w6 := by refine Below.trans ?_ (hb6.mono ?_) <;> (repeat' (first | (with_reducible (first | exact Below.refl _ _ | assumption | refine below_drewN ?_ _ | refine Below.drew ?_ | refine Below.alloc ?_ ?_ _ | refine Below.setCell ?_ ?_ _)) | go_size))
    have hz6 := hb6.size
    (try simp at hz6)
    clear hb6
    replace cC := C6.cell
    replace fC := C6.frozen
    replace zC := C6.size
    replace cQ := Q6.cell
    replace fQ := Q6.frozen
    replace zQ := Q6.size
    go_wp2_with fail
    refine (sixty_true _).mono ?_
    rintro e w7 ⟨rfl, hb7⟩
    have g7 : Below w.heap.size w w7 := by refine Below.trans ?_ (hb7.mono ?_) <;> (repeat' (first | (with_reducible (first | exact Below.refl _ _ | assumption | refine below_drewN ?_ _ | refine Below.drew ?_ | refine Below.alloc ?_ ?_ _ | refine Below.setCell ?_ ?_ _)) | go_size))
    have hz7 := hb7.size
    (try simp at hz7)
    clear hb7
    go_wp2
    go_ret
    exact ⟨rfl, by (repeat' (first | (with_reducible (first | exact Below.refl _ _ | assumption | refine below_drewN ?_ _ | refine Below.drew ?_ | refine Below.alloc ?_ ?_ _ | refine Below.setCell ?_ ?_ _)) | go_size))⟩
theorem UpperMost_walk (m : Int) (hm : 0 ≤ m ∧ m ≤ 18446744073709551615) (d : Int) (hd : 0 ≤ d ∧ d ≤ 18446744073709551615) (n : Int) (hn : 0 ≤ n ∧ n ≤ 18446744073709551615) (q0 : Int) (hq0 : 0 ≤ q0 ∧ q0 ≤ 18446744073709551615) (q1 : Int) (hq1 : 0 ≤ q1 ∧ q1 ≤ 18446744073709551615) (q2 : Int) (hq2 : 0 ≤ q2 ∧ q2 ≤ 18446744073709551615) (L : Int) (hL : -9223372036854775808 ≤ L ∧ L ≤ 9223372036854775807) (w : World) :
    Calls Try.prog 7 #[.agg #[.int .u64 m, .int .u64 d, .int .u64 n], .agg #[.int .u64 q0, .int .u64 q1, .int .u64 q2], .int .i64 L] w fun e w' => e = .returned (.bool true) ∧ Below w.heap.size w w' := by
  obtain ⟨z, e, hf⟩ := FlR.ex (sk m d n q0) 65536 (by omega)
  have s1 := sk_in hm.1 hd.1 hn.1 hq0.1 hq0.2
  by_cases ha : q0 < 4611686018427387904 ∧ q1 < 4611686018427387904
  · obtain ⟨z', e', hf'⟩ := FlR.ex (sk m d n (q0 + q1)) 65536 (by omega)
    have s1' := sk_in hm.1 hd.1 hn.1 (show 0 ≤ q0 + q1 by omega) (by omega)
    have hmono := sk_mono (d := d) hm.1 hn.1 (show q0 ≤ q0 + q1 by omega)
    exact UM_b m d n q0 q1 q2 L _ z e _ _ _ z' e' _ w hm hd hn hq0 hq1 hq2 hL rfl s1 hf rfl rfl ha rfl s1' hf' rfl (by omega)
  · by_cases ha1 : q0 < 4611686018427387904
    · exact UM_a2 m d n q0 q1 q2 L _ z e _ _ 0 0 0 0 w hm hd hn hq0 hq1 hq2 hL rfl s1 hf rfl rfl ha1 (by omega)
    · exact UM_a1 m d n q0 q1 q2 L _ z e _ _ 0 0 0 0 w hm hd hn hq0 hq1 hq2 hL rfl s1 hf rfl rfl ha1
namespace upperMostDone
theorem own : ownKnob Try.prog.godebug = none := by kernel_rfl
theorem laidOut : laidOutB Try.prog = true := by kernel_rfl
set_option maxRecDepth 100000 in
theorem lifted (os : Os) (started : os.Started) (H : Type) (enc : TypeId × Value → H) :
    ReturnsInHanded {} Try.checked os 7 .any (Rows.upperMostSpec.pre6 enc Try.prog Try.f7 Rows.upperMostRow.domain false) (Rows.upperMostSpec.post enc Try.prog Try.f7 false true false false) := by
  refine returnsInHanded_of_change (C := Try.checked) own started (by kernel_rfl) Try.func7
    (ChangeSpec.witness6 (enc := enc) (C := Try.checked) false ⟨#[], #[.agg #[.int .u64 0, .int .u64 0, .int .u64 0], .agg #[.int .u64 0, .int .u64 0, .int .u64 0], .int .i64 0], []⟩ 8 (by kernel_rfl) (by kernel_rfl) (by kernel_rfl) (by kernel_rfl)) ?_
  intro W base args ds gs before hval0 hW hcnd _
  have hval : ∀ (j : Nat) t v, Try.f7.params[j]? = some t → args[j]? = some v → Value.okWide Try.prog W .any base t v := hval0
  have hW' := hW
  obtain ⟨p, q, hA0, hV, rfl, hfz, hnd⟩ := hW
  have hA : DataW.TrodAll enc Try.prog W 0 (fun _ => true) true Try.f7.params.toList args.toList ds p := hA0
  rw [Try.params7] at hA hval
  obtain ⟨v0, vs0, d0, ds0, p0, q0, hargs, rfl, rfl, h0, r0⟩ := trodAll_cons hA
  obtain ⟨v1, vs1, d1, ds1, p1, q1, rfl, rfl, rfl, h1, r1⟩ := trodAll_cons r0
  obtain ⟨v2, vs2, d2, ds2, p2, q2, rfl, rfl, rfl, h2, r2⟩ := trodAll_cons r1
  obtain ⟨rfl, rfl, rfl⟩ := trodAll_nil r2
  obtain rfl : args = #[v0, v1, v2] := by cases args; simp_all
  obtain ⟨rfl, rfl⟩ := trodVars_none hV
  have k0 := h0
  have lt0 : ∀ x ∈ p0, x.block < W.heap.size := by obtain ⟨m, hm⟩ := k0; exact DataW.trod_lt m _ _ _ hm
  obtain ⟨x0_0, x0_1, x0_2, y0_0, y0_1, y0_2, m0, rfl, hd0, hp0, q0_0, q0_1, q0_2⟩ := Joins.open_agg3 Try.underlying32 (by kernel_rfl) (show Try.prog.cellsOf 32 = 3 by kernel_rfl) (hval 0 32 v0 rfl rfl) h0
  obtain ⟨a0_0, e0_0, _, wf0_0⟩ := DataW.trod_int Try.underlying22 q0_0
  simp at e0_0
  subst e0_0
  have b0_0 := bounds_u64 wf0_0
  obtain ⟨a0_1, e0_1, _, wf0_1⟩ := DataW.trod_int Try.underlying22 q0_1
  simp at e0_1
  subst e0_1
  have b0_1 := bounds_u64 wf0_1
  obtain ⟨a0_2, e0_2, _, wf0_2⟩ := DataW.trod_int Try.underlying22 q0_2
  simp at e0_2
  subst e0_2
  have b0_2 := bounds_u64 wf0_2
  have k1 := h1
  have lt1 : ∀ x ∈ p1, x.block < W.heap.size := by obtain ⟨m, hm⟩ := k1; exact DataW.trod_lt m _ _ _ hm
  obtain ⟨a1_0, a1_1, a1_2, rfl, b1_0, b1_1, b1_2⟩ := open_u64x3 (hval 1 54 v1 rfl rfl) h1
  obtain ⟨a2, rfl, rfl, rfl, wf2⟩ := open_int Try.underlying3 (hval 2 3 v2 rfl rfl) h2
  have b2 := bounds_i64 wf2
  clear hA0 hval0
  refine (UpperMost_walk a0_0 b0_0 a0_1 b0_1 a0_2 b0_2 a1_0 b1_0 a1_1 b1_1 a1_2 b1_2 a2 b2 W).mono fun e W' ⟨he, bel⟩ => ?_
  subst he
  exact ⟨_, rfl, _, _, _, [], _, [], hW', trodAll_mk1 (shut_bool Try.underlying4 _), (trodAll_cons_mk (Below.trod laidOut (by kernel_rfl) (of_decide_eq_true (by kernel_rfl)) k0 bel lt0) (trodAll_cons_mk (Below.trod laidOut (by kernel_rfl) (of_decide_eq_true (by kernel_rfl)) k1 bel lt1) (trodAll_cons_mk (shut_int Try.underlying3 wf2) trodAll_mk0))), rfl, bel.frame _, fun h => by cases h⟩
theorem over : Rows.upperMostRow.holds Try.pinned (OpenSpec.ofChange Rows.upperMostSpec) :=
  OpenClaim.holds_of_wide 7 Try.f7 rfl rfl rfl rfl rfl rfl rfl ⟨rfl, rfl, rfl, rfl, rfl⟩ rfl rfl rfl rfl rfl (by kernel_rfl) Try.func7 (by kernel_rfl)
    (of_decide_eq_true (by kernel_rfl)) (by unfold Func.isWrapper; first | (rw [if_pos (by decide +kernel)]; kernel_rfl) | (rw [if_neg (by decide +kernel)]; exact ⟨rfl, rfl⟩))
    (fun os started H enc _ => lifted os started H enc)
end upperMostDone
theorem UpperMost_holds : Rows.UpperMostSaid := upperMostDone.over

end Go.Proofs.Ytnkpoelljfbefaa
