/-
  The statement RatioCompares: how any two products compare. Conditions: none.
-/
import Derived.Test.YtiaciibnakiikaaRatioT
import Derived.Test.YtiaciibnakiikaaFrame
import Derived.Test.YtiaciibnakiikaaRefB
namespace Go.Proofs.Ytiaciibnakiikaa
open Go.ChangeShapes Go.WideShapes Go.ChangeAt Go.RowKit
set_option linter.unusedVariables false
theorem rMulC (a b p : Int) (w : World) (ha : 0 ≤ a ∧ a ≤ 18446744073709551615) (hb : 0 ≤ b ∧ b ≤ 18446744073709551615) (hp : a * b = p) :
    Calls Try.prog 13 #[.int .u64 a, .int .u64 b] w fun e w' => e = .returned (nv p) ∧ Below w.heap.size w w' := by subst hp; exact rMul a b w ha.1 ha.2 hb.1 hb.2
theorem rLessC (a b : Int) (c : Bool) (w : World) (ha : In128 a) (hb : In128 b) (hc : decide (a < b) = c) :
    Calls Try.prog 14 #[nv a, nv b] w fun e w' => e = .returned (.bool c) ∧ Below w.heap.size w w' := by subst hc; exact rLess a b w ha hb
set_option maxHeartbeats 1000000 in
theorem RC_lt (a b c d p q : Int) (ha : 0 ≤ a ∧ a ≤ 18446744073709551615) (hb : 0 ≤ b ∧ b ≤ 18446744073709551615) (hc : 0 ≤ c ∧ c ≤ 18446744073709551615) (hd : 0 ≤ d ∧ d ≤ 18446744073709551615) (hp : a * b = p) (hq : c * d = q) (h : p < q) (w : World) :
    Calls Try.prog 3 #[.agg #[.int .u64 a, .int .u64 b], .agg #[.int .u64 c, .int .u64 d]] w fun e w' => e = .returned (.bool true) ∧ Below w.heap.size w w' := by
  have k1 := hide (show cmp p q = (-1) by unfold cmp; (repeat' split) <;> omega)
  have k2 := hide (show cmp q p = 1 by unfold cmp; (repeat' split) <;> omega)
  have l1 := hide (show decide (p < q) = true from decide_eq_true (by omega))
  have l2 := hide (show decide (q < p) = false from decide_eq_false (by omega))
  have p1 := mul128 ha hb hp; have q1 := mul128 hc hd hq
  have Hp := hide hp; have Hq := hide hq
  have Hp2 := hide (show b * a = p by rw [Int.mul_comm]; exact hp)
  have Hq2 := hide (show d * c = q by rw [Int.mul_comm]; exact hq)
  clear hp hq h
  go_enter Try.func3, Try.ntmps3
  go_wp2_with fail
  refine (rMulC a b p _ ha hb Hp.out).mono ?_
  rintro e w1 ⟨rfl, hb1⟩
  have P1 : Blk w1 (w.heap.size) #[.int .u64 a, .int .u64 b] 23 := Blk.below (by (repeat' (first | (with_reducible assumption) | (with_reducible exact Blk.alloc_new _ _ _ (by first | rfl | (simp; done) | omega)) | (with_reducible refine Blk.drewN ?_ _) | (with_reducible refine Blk.drew ?_) | (with_reducible refine Blk.alloc_old ?_ _) | (with_reducible apply Blk.set_same) | (with_reducible refine Blk.set_other ?_ (by first | omega | (simp; done) | (simp; omega)) _) | (exact rfl)))) hb1 (by first | (simp; done) | omega | (simp; omega))
  have S1 : Blk w1 (w.heap.size + 1) #[.int .u64 c, .int .u64 d] 23 := Blk.below (by (repeat' (first | (with_reducible assumption) | (with_reducible exact Blk.alloc_new _ _ _ (by first | rfl | (simp; done) | omega)) | (with_reducible refine Blk.drewN ?_ _) | (with_reducible refine Blk.drew ?_) | (with_reducible refine Blk.alloc_old ?_ _) | (with_reducible apply Blk.set_same) | (with_reducible refine Blk.set_other ?_ (by first | omega | (simp; done) | (simp; omega)) _) | (exact rfl)))) hb1 (by first | (simp; done) | omega | (simp; omega))
  have g1 : Below w.heap.size w w1 := by refine Below.trans ?_ (hb1.mono ?_) <;> (repeat' (first | (with_reducible exact Below.refl _ _) | (with_reducible assumption) | (with_reducible refine below_drewN ?_ _) | (with_reducible refine Below.drew ?_) | (with_reducible refine Below.alloc ?_ ?_ _) | (with_reducible refine Below.setCell ?_ ?_ _) | go_size))
  have hz1 := hb1.size
  (try simp at hz1)
  clear hb1
  replace cP := P1.cell
  replace fP := P1.frozen
  replace zP := P1.size
  replace cS := S1.cell
  replace fS := S1.frozen
  replace zS := S1.size
  go_wp2_with fail
  refine (rMulC c d q _ hc hd Hq.out).mono ?_
  rintro e w2 ⟨rfl, hb2⟩
  have P2 : Blk w2 (w.heap.size) #[.int .u64 a, .int .u64 b] 23 := Blk.below (by (repeat' (first | (with_reducible assumption) | (with_reducible exact Blk.alloc_new _ _ _ (by first | rfl | (simp; done) | omega)) | (with_reducible refine Blk.drewN ?_ _) | (with_reducible refine Blk.drew ?_) | (with_reducible refine Blk.alloc_old ?_ _) | (with_reducible apply Blk.set_same) | (with_reducible refine Blk.set_other ?_ (by first | omega | (simp; done) | (simp; omega)) _) | (exact rfl)))) hb2 (by first | (simp; done) | omega | (simp; omega))
  have S2 : Blk w2 (w.heap.size + 1) #[.int .u64 c, .int .u64 d] 23 := Blk.below (by (repeat' (first | (with_reducible assumption) | (with_reducible exact Blk.alloc_new _ _ _ (by first | rfl | (simp; done) | omega)) | (with_reducible refine Blk.drewN ?_ _) | (with_reducible refine Blk.drew ?_) | (with_reducible refine Blk.alloc_old ?_ _) | (with_reducible apply Blk.set_same) | (with_reducible refine Blk.set_other ?_ (by first | omega | (simp; done) | (simp; omega)) _) | (exact rfl)))) hb2 (by first | (simp; done) | omega | (simp; omega))
  have X2 : Blk w2 (w1.heap.size) #[.int .u64 (dg0 (p)), .int .u64 (dg1 (p)), .int .u64 (dg2 (p)), .int .u64 (dg3 (p))] 25 := Blk.below (by (repeat' (first | (with_reducible assumption) | (with_reducible exact Blk.alloc_new _ _ _ (by first | rfl | (simp; done) | omega)) | (with_reducible refine Blk.drewN ?_ _) | (with_reducible refine Blk.drew ?_) | (with_reducible refine Blk.alloc_old ?_ _) | (with_reducible apply Blk.set_same) | (with_reducible refine Blk.set_other ?_ (by first | omega | (simp; done) | (simp; omega)) _) | (exact rfl)))) hb2 (by first | (simp; done) | omega | (simp; omega))
  have g2 : Below w.heap.size w w2 := by refine Below.trans ?_ (hb2.mono ?_) <;> (repeat' (first | (with_reducible exact Below.refl _ _) | (with_reducible assumption) | (with_reducible refine below_drewN ?_ _) | (with_reducible refine Below.drew ?_) | (with_reducible refine Below.alloc ?_ ?_ _) | (with_reducible refine Below.setCell ?_ ?_ _) | go_size))
  have hz2 := hb2.size
  (try simp at hz2)
  clear hb2
  replace cP := P2.cell
  replace fP := P2.frozen
  replace zP := P2.size
  replace cS := S2.cell
  replace fS := S2.frozen
  replace zS := S2.size
  replace cX := X2.cell
  replace fX := X2.frozen
  replace zX := X2.size
  go_wp2_with fail
  refine (rLessC p q _ _ p1 q1 l1.out).mono ?_
  rintro e w3 ⟨rfl, hb3⟩
  have X3 : Blk w3 (w1.heap.size) #[.int .u64 (dg0 (p)), .int .u64 (dg1 (p)), .int .u64 (dg2 (p)), .int .u64 (dg3 (p))] 25 := Blk.below (by (repeat' (first | (with_reducible assumption) | (with_reducible exact Blk.alloc_new _ _ _ (by first | rfl | (simp; done) | omega)) | (with_reducible refine Blk.drewN ?_ _) | (with_reducible refine Blk.drew ?_) | (with_reducible refine Blk.alloc_old ?_ _) | (with_reducible apply Blk.set_same) | (with_reducible refine Blk.set_other ?_ (by first | omega | (simp; done) | (simp; omega)) _) | (exact rfl)))) hb3 (by first | (simp; done) | omega | (simp; omega))
  have Y3 : Blk w3 (w2.heap.size) #[.int .u64 (dg0 (q)), .int .u64 (dg1 (q)), .int .u64 (dg2 (q)), .int .u64 (dg3 (q))] 25 := Blk.below (by (repeat' (first | (with_reducible assumption) | (with_reducible exact Blk.alloc_new _ _ _ (by first | rfl | (simp; done) | omega)) | (with_reducible refine Blk.drewN ?_ _) | (with_reducible refine Blk.drew ?_) | (with_reducible refine Blk.alloc_old ?_ _) | (with_reducible apply Blk.set_same) | (with_reducible refine Blk.set_other ?_ (by first | omega | (simp; done) | (simp; omega)) _) | (exact rfl)))) hb3 (by first | (simp; done) | omega | (simp; omega))
  have g3 : Below w.heap.size w w3 := by refine Below.trans ?_ (hb3.mono ?_) <;> (repeat' (first | (with_reducible exact Below.refl _ _) | (with_reducible assumption) | (with_reducible refine below_drewN ?_ _) | (with_reducible refine Below.drew ?_) | (with_reducible refine Below.alloc ?_ ?_ _) | (with_reducible refine Below.setCell ?_ ?_ _) | go_size))
  have hz3 := hb3.size
  (try simp at hz3)
  clear hb3
  replace cX := X3.cell
  replace fX := X3.frozen
  replace zX := X3.size
  replace cY := Y3.cell
  replace fY := Y3.frozen
  replace zY := Y3.size
  go_wp2_with fail
  refine (rLessC q p _ _ q1 p1 l2.out).mono ?_
  rintro e w4 ⟨rfl, hb4⟩
  have X4 : Blk w4 (w1.heap.size) #[.int .u64 (dg0 (p)), .int .u64 (dg1 (p)), .int .u64 (dg2 (p)), .int .u64 (dg3 (p))] 25 := Blk.below (by (repeat' (first | (with_reducible assumption) | (with_reducible exact Blk.alloc_new _ _ _ (by first | rfl | (simp; done) | omega)) | (with_reducible refine Blk.drewN ?_ _) | (with_reducible refine Blk.drew ?_) | (with_reducible refine Blk.alloc_old ?_ _) | (with_reducible apply Blk.set_same) | (with_reducible refine Blk.set_other ?_ (by first | omega | (simp; done) | (simp; omega)) _) | (exact rfl)))) hb4 (by first | (simp; done) | omega | (simp; omega))
  have Y4 : Blk w4 (w2.heap.size) #[.int .u64 (dg0 (q)), .int .u64 (dg1 (q)), .int .u64 (dg2 (q)), .int .u64 (dg3 (q))] 25 := Blk.below (by (repeat' (first | (with_reducible assumption) | (with_reducible exact Blk.alloc_new _ _ _ (by first | rfl | (simp; done) | omega)) | (with_reducible refine Blk.drewN ?_ _) | (with_reducible refine Blk.drew ?_) | (with_reducible refine Blk.alloc_old ?_ _) | (with_reducible apply Blk.set_same) | (with_reducible refine Blk.set_other ?_ (by first | omega | (simp; done) | (simp; omega)) _) | (exact rfl)))) hb4 (by first | (simp; done) | omega | (simp; omega))
  have g4 : Below w.heap.size w w4 := by refine Below.trans ?_ (hb4.mono ?_) <;> (repeat' (first | (with_reducible exact Below.refl _ _) | (with_reducible assumption) | (with_reducible refine below_drewN ?_ _) | (with_reducible refine Below.drew ?_) | (with_reducible refine Below.alloc ?_ ?_ _) | (with_reducible refine Below.setCell ?_ ?_ _) | go_size))
  have hz4 := hb4.size
  (try simp at hz4)
  clear hb4
  replace cX := X4.cell
  replace fX := X4.frozen
  replace zX := X4.size
  replace cY := Y4.cell
  replace fY := Y4.frozen
  replace zY := Y4.size
  go_wp2_with fail
  refine (rcmp_c a b c d p q _ _ ha hb hc hd Hp.out Hq.out k1.out).mono ?_
  rintro e w5 ⟨rfl, hb5⟩
  have g5 : Below w.heap.size w w5 := by refine Below.trans ?_ (hb5.mono ?_) <;> (repeat' (first | (with_reducible exact Below.refl _ _) | (with_reducible assumption) | (with_reducible refine below_drewN ?_ _) | (with_reducible refine Below.drew ?_) | (with_reducible refine Below.alloc ?_ ?_ _) | (with_reducible refine Below.setCell ?_ ?_ _) | go_size))
  have hz5 := hb5.size
  (try simp at hz5)
  clear hb5
  go_wp2_with fail
  refine (rcmp_c c d a b q p _ _ hc hd ha hb Hq.out Hp.out k2.out).mono ?_
  rintro e w6 ⟨rfl, hb6⟩
  have g6 : Below w.heap.size w w6 := by refine Below.trans ?_ (hb6.mono ?_) <;> (repeat' (first | (with_reducible exact Below.refl _ _) | (with_reducible assumption) | (with_reducible refine below_drewN ?_ _) | (with_reducible refine Below.drew ?_) | (with_reducible refine Below.alloc ?_ ?_ _) | (with_reducible refine Below.setCell ?_ ?_ _) | go_size))
  have hz6 := hb6.size
  (try simp at hz6)
  clear hb6
  go_wp2_with fail
  refine (rcmp_c b a d c p q _ _ hb ha hd hc Hp2.out Hq2.out k1.out).mono ?_
  rintro e w7 ⟨rfl, hb7⟩
  have g7 : Below w.heap.size w w7 := by refine Below.trans ?_ (hb7.mono ?_) <;> (repeat' (first | (with_reducible exact Below.refl _ _) | (with_reducible assumption) | (with_reducible refine below_drewN ?_ _) | (with_reducible refine Below.drew ?_) | (with_reducible refine Below.alloc ?_ ?_ _) | (with_reducible refine Below.setCell ?_ ?_ _) | go_size))
  have hz7 := hb7.size
  (try simp at hz7)
  clear hb7
  go_wp2_with fail
  refine (third_true _).mono ?_
  rintro e w8 ⟨rfl, hb8⟩
  have g8 : Below w.heap.size w w8 := by refine Below.trans ?_ (hb8.mono ?_) <;> (repeat' (first | (with_reducible exact Below.refl _ _) | (with_reducible assumption) | (with_reducible refine below_drewN ?_ _) | (with_reducible refine Below.drew ?_) | (with_reducible refine Below.alloc ?_ ?_ _) | (with_reducible refine Below.setCell ?_ ?_ _) | go_size))
  have hz8 := hb8.size
  (try simp at hz8)
  clear hb8
  go_wp2
  go_ret
  exact ⟨rfl, by (repeat' (first | (with_reducible exact Below.refl _ _) | (with_reducible assumption) | (with_reducible refine below_drewN ?_ _) | (with_reducible refine Below.drew ?_) | (with_reducible refine Below.alloc ?_ ?_ _) | (with_reducible refine Below.setCell ?_ ?_ _) | go_size))⟩
set_option maxHeartbeats 1000000 in
theorem RC_eq (a b c d p q : Int) (ha : 0 ≤ a ∧ a ≤ 18446744073709551615) (hb : 0 ≤ b ∧ b ≤ 18446744073709551615) (hc : 0 ≤ c ∧ c ≤ 18446744073709551615) (hd : 0 ≤ d ∧ d ≤ 18446744073709551615) (hp : a * b = p) (hq : c * d = q) (h : p = q) (w : World) :
    Calls Try.prog 3 #[.agg #[.int .u64 a, .int .u64 b], .agg #[.int .u64 c, .int .u64 d]] w fun e w' => e = .returned (.bool true) ∧ Below w.heap.size w w' := by
  have k1 := hide (show cmp p q = 0 by unfold cmp; (repeat' split) <;> omega)
  have k2 := hide (show cmp q p = 0 by unfold cmp; (repeat' split) <;> omega)
  have l1 := hide (show decide (p < q) = false from decide_eq_false (by omega))
  have l2 := hide (show decide (q < p) = false from decide_eq_false (by omega))
  have p1 := mul128 ha hb hp; have q1 := mul128 hc hd hq
  have Hp := hide hp; have Hq := hide hq
  have Hp2 := hide (show b * a = p by rw [Int.mul_comm]; exact hp)
  have Hq2 := hide (show d * c = q by rw [Int.mul_comm]; exact hq)
  clear hp hq h
  go_enter Try.func3, Try.ntmps3
  go_wp2_with fail
  refine (rMulC a b p _ ha hb Hp.out).mono ?_
  rintro e w1 ⟨rfl, hb1⟩
  have P1 : Blk w1 (w.heap.size) #[.int .u64 a, .int .u64 b] 23 := Blk.below (by (repeat' (first | (with_reducible assumption) | (with_reducible exact Blk.alloc_new _ _ _ (by first | rfl | (simp; done) | omega)) | (with_reducible refine Blk.drewN ?_ _) | (with_reducible refine Blk.drew ?_) | (with_reducible refine Blk.alloc_old ?_ _) | (with_reducible apply Blk.set_same) | (with_reducible refine Blk.set_other ?_ (by first | omega | (simp; done) | (simp; omega)) _) | (exact rfl)))) hb1 (by first | (simp; done) | omega | (simp; omega))
  have S1 : Blk w1 (w.heap.size + 1) #[.int .u64 c, .int .u64 d] 23 := Blk.below (by (repeat' (first | (with_reducible assumption) | (with_reducible exact Blk.alloc_new _ _ _ (by first | rfl | (simp; done) | omega)) | (with_reducible refine Blk.drewN ?_ _) | (with_reducible refine Blk.drew ?_) | (with_reducible refine Blk.alloc_old ?_ _) | (with_reducible apply Blk.set_same) | (with_reducible refine Blk.set_other ?_ (by first | omega | (simp; done) | (simp; omega)) _) | (exact rfl)))) hb1 (by first | (simp; done) | omega | (simp; omega))
  have g1 : Below w.heap.size w w1 := by refine Below.trans ?_ (hb1.mono ?_) <;> (repeat' (first | (with_reducible exact Below.refl _ _) | (with_reducible assumption) | (with_reducible refine below_drewN ?_ _) | (with_reducible refine Below.drew ?_) | (with_reducible refine Below.alloc ?_ ?_ _) | (with_reducible refine Below.setCell ?_ ?_ _) | go_size))
  have hz1 := hb1.size
  (try simp at hz1)
  clear hb1
  replace cP := P1.cell
  replace fP := P1.frozen
  replace zP := P1.size
  replace cS := S1.cell
  replace fS := S1.frozen
  replace zS := S1.size
  go_wp2_with fail
  refine (rMulC c d q _ hc hd Hq.out).mono ?_
  rintro e w2 ⟨rfl, hb2⟩
  have P2 : Blk w2 (w.heap.size) #[.int .u64 a, .int .u64 b] 23 := Blk.below (by (repeat' (first | (with_reducible assumption) | (with_reducible exact Blk.alloc_new _ _ _ (by first | rfl | (simp; done) | omega)) | (with_reducible refine Blk.drewN ?_ _) | (with_reducible refine Blk.drew ?_) | (with_reducible refine Blk.alloc_old ?_ _) | (with_reducible apply Blk.set_same) | (with_reducible refine Blk.set_other ?_ (by first | omega | (simp; done) | (simp; omega)) _) | (exact rfl)))) hb2 (by first | (simp; done) | omega | (simp; omega))
  have S2 : Blk w2 (w.heap.size + 1) #[.int .u64 c, .int .u64 d] 23 := Blk.below (by (repeat' (first | (with_reducible assumption) | (with_reducible exact Blk.alloc_new _ _ _ (by first | rfl | (simp; done) | omega)) | (with_reducible refine Blk.drewN ?_ _) | (with_reducible refine Blk.drew ?_) | (with_reducible refine Blk.alloc_old ?_ _) | (with_reducible apply Blk.set_same) | (with_reducible refine Blk.set_other ?_ (by first | omega | (simp; done) | (simp; omega)) _) | (exact rfl)))) hb2 (by first | (simp; done) | omega | (simp; omega))
  have X2 : Blk w2 (w1.heap.size) #[.int .u64 (dg0 (p)), .int .u64 (dg1 (p)), .int .u64 (dg2 (p)), .int .u64 (dg3 (p))] 25 := Blk.below (by (repeat' (first | (with_reducible assumption) | (with_reducible exact Blk.alloc_new _ _ _ (by first | rfl | (simp; done) | omega)) | (with_reducible refine Blk.drewN ?_ _) | (with_reducible refine Blk.drew ?_) | (with_reducible refine Blk.alloc_old ?_ _) | (with_reducible apply Blk.set_same) | (with_reducible refine Blk.set_other ?_ (by first | omega | (simp; done) | (simp; omega)) _) | (exact rfl)))) hb2 (by first | (simp; done) | omega | (simp; omega))
  have g2 : Below w.heap.size w w2 := by refine Below.trans ?_ (hb2.mono ?_) <;> (repeat' (first | (with_reducible exact Below.refl _ _) | (with_reducible assumption) | (with_reducible refine below_drewN ?_ _) | (with_reducible refine Below.drew ?_) | (with_reducible refine Below.alloc ?_ ?_ _) | (with_reducible refine Below.setCell ?_ ?_ _) | go_size))
  have hz2 := hb2.size
  (try simp at hz2)
  clear hb2
  replace cP := P2.cell
  replace fP := P2.frozen
  replace zP := P2.size
  replace cS := S2.cell
  replace fS := S2.frozen
  replace zS := S2.size
  replace cX := X2.cell
  replace fX := X2.frozen
  replace zX := X2.size
  go_wp2_with fail
  refine (rLessC p q _ _ p1 q1 l1.out).mono ?_
  rintro e w3 ⟨rfl, hb3⟩
  have X3 : Blk w3 (w1.heap.size) #[.int .u64 (dg0 (p)), .int .u64 (dg1 (p)), .int .u64 (dg2 (p)), .int .u64 (dg3 (p))] 25 := Blk.below (by (repeat' (first | (with_reducible assumption) | (with_reducible exact Blk.alloc_new _ _ _ (by first | rfl | (simp; done) | omega)) | (with_reducible refine Blk.drewN ?_ _) | (with_reducible refine Blk.drew ?_) | (with_reducible refine Blk.alloc_old ?_ _) | (with_reducible apply Blk.set_same) | (with_reducible refine Blk.set_other ?_ (by first | omega | (simp; done) | (simp; omega)) _) | (exact rfl)))) hb3 (by first | (simp; done) | omega | (simp; omega))
  have Y3 : Blk w3 (w2.heap.size) #[.int .u64 (dg0 (q)), .int .u64 (dg1 (q)), .int .u64 (dg2 (q)), .int .u64 (dg3 (q))] 25 := Blk.below (by (repeat' (first | (with_reducible assumption) | (with_reducible exact Blk.alloc_new _ _ _ (by first | rfl | (simp; done) | omega)) | (with_reducible refine Blk.drewN ?_ _) | (with_reducible refine Blk.drew ?_) | (with_reducible refine Blk.alloc_old ?_ _) | (with_reducible apply Blk.set_same) | (with_reducible refine Blk.set_other ?_ (by first | omega | (simp; done) | (simp; omega)) _) | (exact rfl)))) hb3 (by first | (simp; done) | omega | (simp; omega))
  have g3 : Below w.heap.size w w3 := by refine Below.trans ?_ (hb3.mono ?_) <;> (repeat' (first | (with_reducible exact Below.refl _ _) | (with_reducible assumption) | (with_reducible refine below_drewN ?_ _) | (with_reducible refine Below.drew ?_) | (with_reducible refine Below.alloc ?_ ?_ _) | (with_reducible refine Below.setCell ?_ ?_ _) | go_size))
  have hz3 := hb3.size
  (try simp at hz3)
  clear hb3
  replace cX := X3.cell
  replace fX := X3.frozen
  replace zX := X3.size
  replace cY := Y3.cell
  replace fY := Y3.frozen
  replace zY := Y3.size
  go_wp2_with fail
  refine (rLessC q p _ _ q1 p1 l2.out).mono ?_
  rintro e w4 ⟨rfl, hb4⟩
  have X4 : Blk w4 (w1.heap.size) #[.int .u64 (dg0 (p)), .int .u64 (dg1 (p)), .int .u64 (dg2 (p)), .int .u64 (dg3 (p))] 25 := Blk.below (by (repeat' (first | (with_reducible assumption) | (with_reducible exact Blk.alloc_new _ _ _ (by first | rfl | (simp; done) | omega)) | (with_reducible refine Blk.drewN ?_ _) | (with_reducible refine Blk.drew ?_) | (with_reducible refine Blk.alloc_old ?_ _) | (with_reducible apply Blk.set_same) | (with_reducible refine Blk.set_other ?_ (by first | omega | (simp; done) | (simp; omega)) _) | (exact rfl)))) hb4 (by first | (simp; done) | omega | (simp; omega))
  have Y4 : Blk w4 (w2.heap.size) #[.int .u64 (dg0 (q)), .int .u64 (dg1 (q)), .int .u64 (dg2 (q)), .int .u64 (dg3 (q))] 25 := Blk.below (by (repeat' (first | (with_reducible assumption) | (with_reducible exact Blk.alloc_new _ _ _ (by first | rfl | (simp; done) | omega)) | (with_reducible refine Blk.drewN ?_ _) | (with_reducible refine Blk.drew ?_) | (with_reducible refine Blk.alloc_old ?_ _) | (with_reducible apply Blk.set_same) | (with_reducible refine Blk.set_other ?_ (by first | omega | (simp; done) | (simp; omega)) _) | (exact rfl)))) hb4 (by first | (simp; done) | omega | (simp; omega))
  have g4 : Below w.heap.size w w4 := by refine Below.trans ?_ (hb4.mono ?_) <;> (repeat' (first | (with_reducible exact Below.refl _ _) | (with_reducible assumption) | (with_reducible refine below_drewN ?_ _) | (with_reducible refine Below.drew ?_) | (with_reducible refine Below.alloc ?_ ?_ _) | (with_reducible refine Below.setCell ?_ ?_ _) | go_size))
  have hz4 := hb4.size
  (try simp at hz4)
  clear hb4
  replace cX := X4.cell
  replace fX := X4.frozen
  replace zX := X4.size
  replace cY := Y4.cell
  replace fY := Y4.frozen
  replace zY := Y4.size
  go_wp2_with fail
  refine (rcmp_c a b c d p q _ _ ha hb hc hd Hp.out Hq.out k1.out).mono ?_
  rintro e w5 ⟨rfl, hb5⟩
  have g5 : Below w.heap.size w w5 := by refine Below.trans ?_ (hb5.mono ?_) <;> (repeat' (first | (with_reducible exact Below.refl _ _) | (with_reducible assumption) | (with_reducible refine below_drewN ?_ _) | (with_reducible refine Below.drew ?_) | (with_reducible refine Below.alloc ?_ ?_ _) | (with_reducible refine Below.setCell ?_ ?_ _) | go_size))
  have hz5 := hb5.size
  (try simp at hz5)
  clear hb5
  go_wp2_with fail
  refine (rcmp_c c d a b q p _ _ hc hd ha hb Hq.out Hp.out k2.out).mono ?_
  rintro e w6 ⟨rfl, hb6⟩
  have g6 : Below w.heap.size w w6 := by refine Below.trans ?_ (hb6.mono ?_) <;> (repeat' (first | (with_reducible exact Below.refl _ _) | (with_reducible assumption) | (with_reducible refine below_drewN ?_ _) | (with_reducible refine Below.drew ?_) | (with_reducible refine Below.alloc ?_ ?_ _) | (with_reducible refine Below.setCell ?_ ?_ _) | go_size))
  have hz6 := hb6.size
  (try simp at hz6)
  clear hb6
  go_wp2_with fail
  refine (rcmp_c b a d c p q _ _ hb ha hd hc Hp2.out Hq2.out k1.out).mono ?_
  rintro e w7 ⟨rfl, hb7⟩
  have g7 : Below w.heap.size w w7 := by refine Below.trans ?_ (hb7.mono ?_) <;> (repeat' (first | (with_reducible exact Below.refl _ _) | (with_reducible assumption) | (with_reducible refine below_drewN ?_ _) | (with_reducible refine Below.drew ?_) | (with_reducible refine Below.alloc ?_ ?_ _) | (with_reducible refine Below.setCell ?_ ?_ _) | go_size))
  have hz7 := hb7.size
  (try simp at hz7)
  clear hb7
  go_wp2_with fail
  refine (third_true _).mono ?_
  rintro e w8 ⟨rfl, hb8⟩
  have g8 : Below w.heap.size w w8 := by refine Below.trans ?_ (hb8.mono ?_) <;> (repeat' (first | (with_reducible exact Below.refl _ _) | (with_reducible assumption) | (with_reducible refine below_drewN ?_ _) | (with_reducible refine Below.drew ?_) | (with_reducible refine Below.alloc ?_ ?_ _) | (with_reducible refine Below.setCell ?_ ?_ _) | go_size))
  have hz8 := hb8.size
  (try simp at hz8)
  clear hb8
  go_wp2
  go_ret
  exact ⟨rfl, by (repeat' (first | (with_reducible exact Below.refl _ _) | (with_reducible assumption) | (with_reducible refine below_drewN ?_ _) | (with_reducible refine Below.drew ?_) | (with_reducible refine Below.alloc ?_ ?_ _) | (with_reducible refine Below.setCell ?_ ?_ _) | go_size))⟩
set_option maxHeartbeats 1000000 in
theorem RC_gt (a b c d p q : Int) (ha : 0 ≤ a ∧ a ≤ 18446744073709551615) (hb : 0 ≤ b ∧ b ≤ 18446744073709551615) (hc : 0 ≤ c ∧ c ≤ 18446744073709551615) (hd : 0 ≤ d ∧ d ≤ 18446744073709551615) (hp : a * b = p) (hq : c * d = q) (h : q < p) (w : World) :
    Calls Try.prog 3 #[.agg #[.int .u64 a, .int .u64 b], .agg #[.int .u64 c, .int .u64 d]] w fun e w' => e = .returned (.bool true) ∧ Below w.heap.size w w' := by
  have k1 := hide (show cmp p q = 1 by unfold cmp; (repeat' split) <;> omega)
  have k2 := hide (show cmp q p = (-1) by unfold cmp; (repeat' split) <;> omega)
  have l1 := hide (show decide (p < q) = false from decide_eq_false (by omega))
  have l2 := hide (show decide (q < p) = true from decide_eq_true (by omega))
  have p1 := mul128 ha hb hp; have q1 := mul128 hc hd hq
  have Hp := hide hp; have Hq := hide hq
  have Hp2 := hide (show b * a = p by rw [Int.mul_comm]; exact hp)
  have Hq2 := hide (show d * c = q by rw [Int.mul_comm]; exact hq)
  clear hp hq h
  go_enter Try.func3, Try.ntmps3
  go_wp2_with fail
  refine (rMulC a b p _ ha hb Hp.out).mono ?_
  rintro e w1 ⟨rfl, hb1⟩
  have P1 : Blk w1 (w.heap.size) #[.int .u64 a, .int .u64 b] 23 := Blk.below (by (repeat' (first | (with_reducible assumption) | (with_reducible exact Blk.alloc_new _ _ _ (by first | rfl | (simp; done) | omega)) | (with_reducible refine Blk.drewN ?_ _) | (with_reducible refine Blk.drew ?_) | (with_reducible refine Blk.alloc_old ?_ _) | (with_reducible apply Blk.set_same) | (with_reducible refine Blk.set_other ?_ (by first | omega | (simp; done) | (simp; omega)) _) | (exact rfl)))) hb1 (by first | (simp; done) | omega | (simp; omega))
  have S1 : Blk w1 (w.heap.size + 1) #[.int .u64 c, .int .u64 d] 23 := Blk.below (by (repeat' (first | (with_reducible assumption) | (with_reducible exact Blk.alloc_new _ _ _ (by first | rfl | (simp; done) | omega)) | (with_reducible refine Blk.drewN ?_ _) | (with_reducible refine Blk.drew ?_) | (with_reducible refine Blk.alloc_old ?_ _) | (with_reducible apply Blk.set_same) | (with_reducible refine Blk.set_other ?_ (by first | omega | (simp; done) | (simp; omega)) _) | (exact rfl)))) hb1 (by first | (simp; done) | omega | (simp; omega))
  have g1 : Below w.heap.size w w1 := by refine Below.trans ?_ (hb1.mono ?_) <;> (repeat' (first | (with_reducible exact Below.refl _ _) | (with_reducible assumption) | (with_reducible refine below_drewN ?_ _) | (with_reducible refine Below.drew ?_) | (with_reducible refine Below.alloc ?_ ?_ _) | (with_reducible refine Below.setCell ?_ ?_ _) | go_size))
  have hz1 := hb1.size
  (try simp at hz1)
  clear hb1
  replace cP := P1.cell
  replace fP := P1.frozen
  replace zP := P1.size
  replace cS := S1.cell
  replace fS := S1.frozen
  replace zS := S1.size
  go_wp2_with fail
  refine (rMulC c d q _ hc hd Hq.out).mono ?_
  rintro e w2 ⟨rfl, hb2⟩
  have P2 : Blk w2 (w.heap.size) #[.int .u64 a, .int .u64 b] 23 := Blk.below (by (repeat' (first | (with_reducible assumption) | (with_reducible exact Blk.alloc_new _ _ _ (by first | rfl | (simp; done) | omega)) | (with_reducible refine Blk.drewN ?_ _) | (with_reducible refine Blk.drew ?_) | (with_reducible refine Blk.alloc_old ?_ _) | (with_reducible apply Blk.set_same) | (with_reducible refine Blk.set_other ?_ (by first | omega | (simp; done) | (simp; omega)) _) | (exact rfl)))) hb2 (by first | (simp; done) | omega | (simp; omega))
  have S2 : Blk w2 (w.heap.size + 1) #[.int .u64 c, .int .u64 d] 23 := Blk.below (by (repeat' (first | (with_reducible assumption) | (with_reducible exact Blk.alloc_new _ _ _ (by first | rfl | (simp; done) | omega)) | (with_reducible refine Blk.drewN ?_ _) | (with_reducible refine Blk.drew ?_) | (with_reducible refine Blk.alloc_old ?_ _) | (with_reducible apply Blk.set_same) | (with_reducible refine Blk.set_other ?_ (by first | omega | (simp; done) | (simp; omega)) _) | (exact rfl)))) hb2 (by first | (simp; done) | omega | (simp; omega))
  have X2 : Blk w2 (w1.heap.size) #[.int .u64 (dg0 (p)), .int .u64 (dg1 (p)), .int .u64 (dg2 (p)), .int .u64 (dg3 (p))] 25 := Blk.below (by (repeat' (first | (with_reducible assumption) | (with_reducible exact Blk.alloc_new _ _ _ (by first | rfl | (simp; done) | omega)) | (with_reducible refine Blk.drewN ?_ _) | (with_reducible refine Blk.drew ?_) | (with_reducible refine Blk.alloc_old ?_ _) | (with_reducible apply Blk.set_same) | (with_reducible refine Blk.set_other ?_ (by first | omega | (simp; done) | (simp; omega)) _) | (exact rfl)))) hb2 (by first | (simp; done) | omega | (simp; omega))
  have g2 : Below w.heap.size w w2 := by refine Below.trans ?_ (hb2.mono ?_) <;> (repeat' (first | (with_reducible exact Below.refl _ _) | (with_reducible assumption) | (with_reducible refine below_drewN ?_ _) | (with_reducible refine Below.drew ?_) | (with_reducible refine Below.alloc ?_ ?_ _) | (with_reducible refine Below.setCell ?_ ?_ _) | go_size))
  have hz2 := hb2.size
  (try simp at hz2)
  clear hb2
  replace cP := P2.cell
  replace fP := P2.frozen
  replace zP := P2.size
  replace cS := S2.cell
  replace fS := S2.frozen
  replace zS := S2.size
  replace cX := X2.cell
  replace fX := X2.frozen
  replace zX := X2.size
  go_wp2_with fail
  refine (rLessC p q _ _ p1 q1 l1.out).mono ?_
  rintro e w3 ⟨rfl, hb3⟩
  have X3 : Blk w3 (w1.heap.size) #[.int .u64 (dg0 (p)), .int .u64 (dg1 (p)), .int .u64 (dg2 (p)), .int .u64 (dg3 (p))] 25 := Blk.below (by (repeat' (first | (with_reducible assumption) | (with_reducible exact Blk.alloc_new _ _ _ (by first | rfl | (simp; done) | omega)) | (with_reducible refine Blk.drewN ?_ _) | (with_reducible refine Blk.drew ?_) | (with_reducible refine Blk.alloc_old ?_ _) | (with_reducible apply Blk.set_same) | (with_reducible refine Blk.set_other ?_ (by first | omega | (simp; done) | (simp; omega)) _) | (exact rfl)))) hb3 (by first | (simp; done) | omega | (simp; omega))
  have Y3 : Blk w3 (w2.heap.size) #[.int .u64 (dg0 (q)), .int .u64 (dg1 (q)), .int .u64 (dg2 (q)), .int .u64 (dg3 (q))] 25 := Blk.below (by (repeat' (first | (with_reducible assumption) | (with_reducible exact Blk.alloc_new _ _ _ (by first | rfl | (simp; done) | omega)) | (with_reducible refine Blk.drewN ?_ _) | (with_reducible refine Blk.drew ?_) | (with_reducible refine Blk.alloc_old ?_ _) | (with_reducible apply Blk.set_same) | (with_reducible refine Blk.set_other ?_ (by first | omega | (simp; done) | (simp; omega)) _) | (exact rfl)))) hb3 (by first | (simp; done) | omega | (simp; omega))
  have g3 : Below w.heap.size w w3 := by refine Below.trans ?_ (hb3.mono ?_) <;> (repeat' (first | (with_reducible exact Below.refl _ _) | (with_reducible assumption) | (with_reducible refine below_drewN ?_ _) | (with_reducible refine Below.drew ?_) | (with_reducible refine Below.alloc ?_ ?_ _) | (with_reducible refine Below.setCell ?_ ?_ _) | go_size))
  have hz3 := hb3.size
  (try simp at hz3)
  clear hb3
  replace cX := X3.cell
  replace fX := X3.frozen
  replace zX := X3.size
  replace cY := Y3.cell
  replace fY := Y3.frozen
  replace zY := Y3.size
  go_wp2_with fail
  refine (rLessC q p _ _ q1 p1 l2.out).mono ?_
  rintro e w4 ⟨rfl, hb4⟩
  have X4 : Blk w4 (w1.heap.size) #[.int .u64 (dg0 (p)), .int .u64 (dg1 (p)), .int .u64 (dg2 (p)), .int .u64 (dg3 (p))] 25 := Blk.below (by (repeat' (first | (with_reducible assumption) | (with_reducible exact Blk.alloc_new _ _ _ (by first | rfl | (simp; done) | omega)) | (with_reducible refine Blk.drewN ?_ _) | (with_reducible refine Blk.drew ?_) | (with_reducible refine Blk.alloc_old ?_ _) | (with_reducible apply Blk.set_same) | (with_reducible refine Blk.set_other ?_ (by first | omega | (simp; done) | (simp; omega)) _) | (exact rfl)))) hb4 (by first | (simp; done) | omega | (simp; omega))
  have Y4 : Blk w4 (w2.heap.size) #[.int .u64 (dg0 (q)), .int .u64 (dg1 (q)), .int .u64 (dg2 (q)), .int .u64 (dg3 (q))] 25 := Blk.below (by (repeat' (first | (with_reducible assumption) | (with_reducible exact Blk.alloc_new _ _ _ (by first | rfl | (simp; done) | omega)) | (with_reducible refine Blk.drewN ?_ _) | (with_reducible refine Blk.drew ?_) | (with_reducible refine Blk.alloc_old ?_ _) | (with_reducible apply Blk.set_same) | (with_reducible refine Blk.set_other ?_ (by first | omega | (simp; done) | (simp; omega)) _) | (exact rfl)))) hb4 (by first | (simp; done) | omega | (simp; omega))
  have g4 : Below w.heap.size w w4 := by refine Below.trans ?_ (hb4.mono ?_) <;> (repeat' (first | (with_reducible exact Below.refl _ _) | (with_reducible assumption) | (with_reducible refine below_drewN ?_ _) | (with_reducible refine Below.drew ?_) | (with_reducible refine Below.alloc ?_ ?_ _) | (with_reducible refine Below.setCell ?_ ?_ _) | go_size))
  have hz4 := hb4.size
  (try simp at hz4)
  clear hb4
  replace cX := X4.cell
  replace fX := X4.frozen
  replace zX := X4.size
  replace cY := Y4.cell
  replace fY := Y4.frozen
  replace zY := Y4.size
  go_wp2_with fail
  refine (rcmp_c a b c d p q _ _ ha hb hc hd Hp.out Hq.out k1.out).mono ?_
  rintro e w5 ⟨rfl, hb5⟩
  have g5 : Below w.heap.size w w5 := by refine Below.trans ?_ (hb5.mono ?_) <;> (repeat' (first | (with_reducible exact Below.refl _ _) | (with_reducible assumption) | (with_reducible refine below_drewN ?_ _) | (with_reducible refine Below.drew ?_) | (with_reducible refine Below.alloc ?_ ?_ _) | (with_reducible refine Below.setCell ?_ ?_ _) | go_size))
  have hz5 := hb5.size
  (try simp at hz5)
  clear hb5
  go_wp2_with fail
  refine (rcmp_c c d a b q p _ _ hc hd ha hb Hq.out Hp.out k2.out).mono ?_
  rintro e w6 ⟨rfl, hb6⟩
  have g6 : Below w.heap.size w w6 := by refine Below.trans ?_ (hb6.mono ?_) <;> (repeat' (first | (with_reducible exact Below.refl _ _) | (with_reducible assumption) | (with_reducible refine below_drewN ?_ _) | (with_reducible refine Below.drew ?_) | (with_reducible refine Below.alloc ?_ ?_ _) | (with_reducible refine Below.setCell ?_ ?_ _) | go_size))
  have hz6 := hb6.size
  (try simp at hz6)
  clear hb6
  go_wp2_with fail
  refine (rcmp_c b a d c p q _ _ hb ha hd hc Hp2.out Hq2.out k1.out).mono ?_
  rintro e w7 ⟨rfl, hb7⟩
  have g7 : Below w.heap.size w w7 := by refine Below.trans ?_ (hb7.mono ?_) <;> (repeat' (first | (with_reducible exact Below.refl _ _) | (with_reducible assumption) | (with_reducible refine below_drewN ?_ _) | (with_reducible refine Below.drew ?_) | (with_reducible refine Below.alloc ?_ ?_ _) | (with_reducible refine Below.setCell ?_ ?_ _) | go_size))
  have hz7 := hb7.size
  (try simp at hz7)
  clear hb7
  go_wp2_with fail
  refine (third_true _).mono ?_
  rintro e w8 ⟨rfl, hb8⟩
  have g8 : Below w.heap.size w w8 := by refine Below.trans ?_ (hb8.mono ?_) <;> (repeat' (first | (with_reducible exact Below.refl _ _) | (with_reducible assumption) | (with_reducible refine below_drewN ?_ _) | (with_reducible refine Below.drew ?_) | (with_reducible refine Below.alloc ?_ ?_ _) | (with_reducible refine Below.setCell ?_ ?_ _) | go_size))
  have hz8 := hb8.size
  (try simp at hz8)
  clear hb8
  go_wp2
  go_ret
  exact ⟨rfl, by (repeat' (first | (with_reducible exact Below.refl _ _) | (with_reducible assumption) | (with_reducible refine below_drewN ?_ _) | (with_reducible refine Below.drew ?_) | (with_reducible refine Below.alloc ?_ ?_ _) | (with_reducible refine Below.setCell ?_ ?_ _) | go_size))⟩
theorem RatioCompares_walk (a : Int) (ha : 0 ≤ a ∧ a ≤ 18446744073709551615) (b : Int) (hb : 0 ≤ b ∧ b ≤ 18446744073709551615) (c : Int) (hc : 0 ≤ c ∧ c ≤ 18446744073709551615) (d : Int) (hd : 0 ≤ d ∧ d ≤ 18446744073709551615) (w : World) :
    Calls Try.prog 3 #[.agg #[.int .u64 a, .int .u64 b], .agg #[.int .u64 c, .int .u64 d]] w fun e w' => e = .returned (.bool true) ∧ Below w.heap.size w w' := by
  rcases Int.lt_trichotomy (a * b) (c * d) with h | h | h
  · exact RC_lt a b c d _ _ ha hb hc hd rfl rfl h w
  · exact RC_eq a b c d _ _ ha hb hc hd rfl rfl h w
  · exact RC_gt a b c d _ _ ha hb hc hd rfl rfl h w
namespace ratioComparesDone
theorem own : ownKnob Try.prog.godebug = none := by kernel_rfl
theorem laidOut : laidOutB Try.prog = true := by kernel_rfl
set_option maxRecDepth 100000 in
theorem lifted (os : Os) (started : os.Started) (H : Type) (enc : TypeId × Value → H) :
    ReturnsInHanded {} Try.checked os 3 .any (Rows.ratioComparesSpec.pre6 enc Try.prog Try.f3 Rows.ratioComparesRow.domain false) (Rows.ratioComparesSpec.post enc Try.prog Try.f3 false true false false) := by
  refine returnsInHanded_of_change (C := Try.checked) own started (by kernel_rfl) Try.func3
    (ChangeSpec.witness6 (enc := enc) (C := Try.checked) false ⟨#[], #[.agg #[.int .u64 0, .int .u64 0], .agg #[.int .u64 0, .int .u64 0]], []⟩ 8 (by kernel_rfl) (by kernel_rfl) (by kernel_rfl) (by kernel_rfl)) ?_
  intro W base args ds gs before hval0 hW hcnd _
  have hval : ∀ (j : Nat) t v, Try.f3.params[j]? = some t → args[j]? = some v → Value.okWide Try.prog W .any base t v := hval0
  have hW' := hW
  obtain ⟨p, q, hA0, hV, rfl, hfz, hnd⟩ := hW
  have hA : DataW.TrodAll enc Try.prog W 0 (fun _ => true) true Try.f3.params.toList args.toList ds p := hA0
  rw [Try.params3] at hA hval
  obtain ⟨v0, vs0, d0, ds0, p0, q0, hargs, rfl, rfl, h0, r0⟩ := trodAll_cons hA
  obtain ⟨v1, vs1, d1, ds1, p1, q1, rfl, rfl, rfl, h1, r1⟩ := trodAll_cons r0
  obtain ⟨rfl, rfl, rfl⟩ := trodAll_nil r1
  obtain rfl : args = #[v0, v1] := by cases args; simp_all
  obtain ⟨rfl, rfl⟩ := trodVars_none hV
  have k0 := h0
  have lt0 : ∀ x ∈ p0, x.block < W.heap.size := by obtain ⟨m, hm⟩ := k0; exact DataW.trod_lt m _ _ _ hm
  obtain ⟨a0_0, a0_1, rfl, wf0_0, wf0_1⟩ := open_arr2 Try.underlying23 Try.underlying22 (by kernel_rfl) (by kernel_rfl) (hval 0 23 v0 rfl rfl) h0
  have b0_0 := bounds_u64 wf0_0
  have b0_1 := bounds_u64 wf0_1
  have k1 := h1
  have lt1 : ∀ x ∈ p1, x.block < W.heap.size := by obtain ⟨m, hm⟩ := k1; exact DataW.trod_lt m _ _ _ hm
  obtain ⟨a1_0, a1_1, rfl, wf1_0, wf1_1⟩ := open_arr2 Try.underlying23 Try.underlying22 (by kernel_rfl) (by kernel_rfl) (hval 1 23 v1 rfl rfl) h1
  have b1_0 := bounds_u64 wf1_0
  have b1_1 := bounds_u64 wf1_1
  clear hA0 hval0
  refine (RatioCompares_walk a0_0 b0_0 a0_1 b0_1 a1_0 b1_0 a1_1 b1_1 W).mono fun e W' ⟨he, bel⟩ => ?_
  subst he
  exact ⟨_, rfl, _, _, _, [], _, [], hW', trodAll_mk1 (shut_bool Try.underlying4 _), (trodAll_cons_mk (Below.trod laidOut (by kernel_rfl) (of_decide_eq_true (by kernel_rfl)) k0 bel lt0) (trodAll_cons_mk (Below.trod laidOut (by kernel_rfl) (of_decide_eq_true (by kernel_rfl)) k1 bel lt1) trodAll_mk0)), rfl, bel.frame _, fun h => by cases h⟩
theorem over : Rows.ratioComparesRow.holds Try.pinned (OpenSpec.ofChange Rows.ratioComparesSpec) :=
  OpenClaim.holds_of_wide 3 Try.f3 rfl rfl rfl rfl rfl rfl rfl ⟨rfl, rfl, rfl, rfl, rfl⟩ rfl rfl rfl rfl rfl (by kernel_rfl) Try.func3 (by kernel_rfl)
    (of_decide_eq_true (by kernel_rfl)) (by unfold Func.isWrapper; first | (rw [if_pos (by decide +kernel)]; kernel_rfl) | (rw [if_neg (by decide +kernel)]; exact ⟨rfl, rfl⟩))
    (fun os started H enc _ => lifted os started H enc)
end ratioComparesDone
theorem RatioCompares_holds : Rows.RatioComparesSaid := ratioComparesDone.over

end Go.Proofs.Ytiaciibnakiikaa
