/-
  The statement WideDivs: the quotient and the rest of any number by any other one, or that there is none. Conditions: none.
-/
import Derived.Test.YtkegfnbjeafliaaLawW1
import Derived.Test.YtkegfnbjeafliaaQuo
import Derived.Laws.StructEq
namespace Go.Proofs.Ytkegfnbjeafliaa
open Go.ChangeShapes Go.WideShapes Go.ChangeAt Go.RowKit
set_option linter.unusedVariables false
theorem wAdd_of5 {x y : Value} {a b c : Int} (hx : x = wv a) (hy : y = wv b) (hc : a + b = c) (w : World) (ha : In128 a) (hb : In128 b) (hcc : In128 c) :
    Calls Try.prog 33 #[x, y] w fun e w' => e = .returned (.tuple #[wv c, .bool false]) ∧ Below w.heap.size w w' := by
  subst hx hy hc
  have := wAdd a b w ha hb
  rw [m128_of hcc, decide_eq_false (by unfold In128 at hcc; omega)] at this; exact this
theorem wDiv_of (a b q r : Int) (w : World) (ha : In128 a) (hb : 1 ≤ b) (hb' : b ≤ 18446744073709551615) (hq : a / b = q) (hr : a % b = r) :
    Calls Try.prog 34 #[wv a, .int .u64 b] w fun e w' => e = .returned (.tuple #[wv q, .int .u64 r, .int .i64 0]) ∧ Below w.heap.size w w' := by subst hq hr; exact wDiv a b w ha hb hb'
theorem rQuo_of (a b q r : Int) (w : World) (ha : In128 a) (hb : 1 ≤ b) (hb' : b ≤ 18446744073709551615) (hq : a / b = q) (hr : a % b = r) :
    Calls Try.prog 35 #[nv a, .int .u64 b] w fun e w' => e = .returned (.tuple #[nv q, .int .u64 r]) ∧ Below w.heap.size w w' := by subst hq hr; exact rQuotient a b w ha hb hb'
theorem wDiv00 (A : Int) (w : World) :
    Calls Try.prog 34 #[wv A, .int .u64 0] w fun e w' => e = .returned (.tuple #[.agg #[.int .u64 0, .int .u64 0], .int .u64 0, .int .i64 1]) ∧ Below w.heap.size w w' := by
  have := wDiv0 A w
  rw [show wv 0 = .agg #[.int .u64 0, .int .u64 0] from (wv_eq (by omega) (by omega) (by omega)).symm] at this; exact this
theorem WD_0 (a : Int) (w : World) :
    Calls Try.prog 12 #[wv a, .int .u64 0] w fun e w' => e = .returned (.bool true) ∧ Below w.heap.size w w' := by
  go_enter Try.func12, Try.ntmps12
  go_wp2_with fail
  refine (wDiv00 a _).mono ?_
  rintro e w1 ⟨rfl, hb1⟩
  have A1 : Blk w1 (w.heap.size) #[.int .u64 (hi (a)), .int .u64 (lo (a))] 41 := Blk.below (by (repeat' (first | (with_reducible assumption) | (with_reducible exact Blk.alloc_new _ _ _ (by first | rfl | (simp; done) | omega)) | (with_reducible refine Blk.drewN ?_ _) | (with_reducible refine Blk.drew ?_) | (with_reducible refine Blk.alloc_old ?_ _) | (with_reducible apply Blk.set_same) | (with_reducible refine Blk.set_other ?_ (by first | omega | (simp; done) | (simp; omega)) _) | (exact rfl)))) hb1 (by first | (simp; done) | omega | (simp; omega))
  have g1 : Below w.heap.size w w1 := by refine Below.trans ?_ (hb1.mono ?_) <;> (repeat' (first | (with_reducible exact Below.refl _ _) | (with_reducible assumption) | (with_reducible refine below_drewN ?_ _) | (with_reducible refine Below.drew ?_) | (with_reducible refine Below.alloc ?_ ?_ _) | (with_reducible refine Below.setCell ?_ ?_ _) | go_size))
  have hz1 := hb1.size
  (try simp at hz1)
  clear hb1
  replace cA := A1.cell
  replace fA := A1.frozen
  replace zA := A1.size
  go_wp2_with fail
  refine (six_true _).mono ?_
  rintro e w2 ⟨rfl, hb2⟩
  have A2 : Blk w2 (w.heap.size) #[.int .u64 (hi (a)), .int .u64 (lo (a))] 41 := Blk.below (by (repeat' (first | (with_reducible assumption) | (with_reducible exact Blk.alloc_new _ _ _ (by first | rfl | (simp; done) | omega)) | (with_reducible refine Blk.drewN ?_ _) | (with_reducible refine Blk.drew ?_) | (with_reducible refine Blk.alloc_old ?_ _) | (with_reducible apply Blk.set_same) | (with_reducible refine Blk.set_other ?_ (by first | omega | (simp; done) | (simp; omega)) _) | (exact rfl)))) hb2 (by first | (simp; done) | omega | (simp; omega))
  have g2 : Below w.heap.size w w2 := by refine Below.trans ?_ (hb2.mono ?_) <;> (repeat' (first | (with_reducible exact Below.refl _ _) | (with_reducible assumption) | (with_reducible refine below_drewN ?_ _) | (with_reducible refine Below.drew ?_) | (with_reducible refine Below.alloc ?_ ?_ _) | (with_reducible refine Below.setCell ?_ ?_ _) | go_size))
  have hz2 := hb2.size
  (try simp at hz2)
  clear hb2
  replace cA := A2.cell
  replace fA := A2.frozen
  replace zA := A2.size
  go_wp2
  go_ret
  exact ⟨rfl, by (repeat' (first | (with_reducible exact Below.refl _ _) | (with_reducible assumption) | (with_reducible refine below_drewN ?_ _) | (with_reducible refine Below.drew ?_) | (with_reducible refine Below.alloc ?_ ?_ _) | (with_reducible refine Below.setCell ?_ ?_ _) | go_size))⟩
set_option maxHeartbeats 1000000 in
theorem WD_1 (a b : Int) (w : World) (ha : In128 a) (hb : 1 ≤ b) (hb' : b ≤ 18446744073709551615) :
    Calls Try.prog 12 #[wv a, .int .u64 b] w fun e w' => e = .returned (.bool true) ∧ Below w.heap.size w w' := by
  have e0 : b * (a / b) + a % b = a := Int.mul_ediv_add_emod a b
  have h1 : 0 ≤ a / b ∧ a / b ≤ a := ⟨Int.ediv_nonneg ha.1 (by omega), Int.ediv_le_self _ ha.1⟩
  have h2 : 0 ≤ a % b := Int.emod_nonneg a (by omega)
  have h3 : a % b < b := Int.emod_lt_of_pos a (by omega)
  obtain ⟨q, hq⟩ : ∃ q, a / b = q := ⟨_, rfl⟩
  obtain ⟨r, hr⟩ : ∃ r, a % b = r := ⟨_, rfl⟩
  rw [hq, hr] at e0; rw [hq] at h1; rw [hr] at h2 h3
  have Hq := hide hq; have Hr := hide hr; have E0 := hide e0
  clear hq hr e0
  have hq128 : In128 q := by unfold In128 at *; omega
  have d0 : decide (b ≤ r) = false := decide_eq_false (by omega)
  have n0 : (b == 0) = false := beq_eq_false_iff_ne.2 (by omega)
  have rh := hi_rng q; have rl := lo_rng q
  by_cases hh : hi q = 0
  · have b0 : (hi q == 0) = true := beq_iff_eq.2 hh
    have hlo : lo q = q := by have := hi_lo hq128; omega
    have hp := mul_rng64 (lo q) b rl.1 rl.2 (by omega) hb'
    have hs := hide (show lo q * b + r = a by rw [hlo, Int.mul_comm]; exact E0.out)
    have p128 : In128 (lo q * b) := by unfold In128; omega
    have r128 : In128 r := by unfold In128; omega
    clear hlo hp hh
    go_enter Try.func12, Try.ntmps12
    go_wp2_with fail
    refine (wDiv_of a b q r _ ha hb hb' Hq.out Hr.out).mono ?_
    rintro e w1 ⟨rfl, hb1⟩
    have A1 : Blk w1 (w.heap.size) #[.int .u64 (hi (a)), .int .u64 (lo (a))] 41 := Blk.below (by (repeat' (first | (with_reducible assumption) | (with_reducible exact Blk.alloc_new _ _ _ (by first | rfl | (simp; done) | omega)) | (with_reducible refine Blk.drewN ?_ _) | (with_reducible refine Blk.drew ?_) | (with_reducible refine Blk.alloc_old ?_ _) | (with_reducible apply Blk.set_same) | (with_reducible refine Blk.set_other ?_ (by first | omega | (simp; done) | (simp; omega)) _) | (exact rfl)))) hb1 (by first | (simp; done) | omega | (simp; omega))
    have g1 : Below w.heap.size w w1 := by refine Below.trans ?_ (hb1.mono ?_) <;> (repeat' (first | (with_reducible exact Below.refl _ _) | (with_reducible assumption) | (with_reducible refine below_drewN ?_ _) | (with_reducible refine Below.drew ?_) | (with_reducible refine Below.alloc ?_ ?_ _) | (with_reducible refine Below.setCell ?_ ?_ _) | go_size))
    have hz1 := hb1.size
    (try simp at hz1)
    clear hb1
    replace cA := A1.cell
    replace fA := A1.frozen
    replace zA := A1.size
    go_wp2_with fail
    refine (lref a _ ha).mono ?_
    rintro e w2 ⟨rfl, hb2⟩
    have A2 : Blk w2 (w.heap.size) #[.int .u64 (hi (a)), .int .u64 (lo (a))] 41 := Blk.below (by (repeat' (first | (with_reducible assumption) | (with_reducible exact Blk.alloc_new _ _ _ (by first | rfl | (simp; done) | omega)) | (with_reducible refine Blk.drewN ?_ _) | (with_reducible refine Blk.drew ?_) | (with_reducible refine Blk.alloc_old ?_ _) | (with_reducible apply Blk.set_same) | (with_reducible refine Blk.set_other ?_ (by first | omega | (simp; done) | (simp; omega)) _) | (exact rfl)))) hb2 (by first | (simp; done) | omega | (simp; omega))
    have D2 : Blk w2 (w1.heap.size) #[.int .u64 (hi (q)), .int .u64 (lo (q))] 41 := Blk.below (by (repeat' (first | (with_reducible assumption) | (with_reducible exact Blk.alloc_new _ _ _ (by first | rfl | (simp; done) | omega)) | (with_reducible refine Blk.drewN ?_ _) | (with_reducible refine Blk.drew ?_) | (with_reducible refine Blk.alloc_old ?_ _) | (with_reducible apply Blk.set_same) | (with_reducible refine Blk.set_other ?_ (by first | omega | (simp; done) | (simp; omega)) _) | (exact rfl)))) hb2 (by first | (simp; done) | omega | (simp; omega))
    have g2 : Below w.heap.size w w2 := by refine Below.trans ?_ (hb2.mono ?_) <;> (repeat' (first | (with_reducible exact Below.refl _ _) | (with_reducible assumption) | (with_reducible refine below_drewN ?_ _) | (with_reducible refine Below.drew ?_) | (with_reducible refine Below.alloc ?_ ?_ _) | (with_reducible refine Below.setCell ?_ ?_ _) | go_size))
    have hz2 := hb2.size
    (try simp at hz2)
    clear hb2
    replace cA := A2.cell
    replace fA := A2.frozen
    replace zA := A2.size
    replace cD := D2.cell
    replace fD := D2.frozen
    replace zD := D2.size
    go_wp2_with fail
    refine (rQuo_of a b q r _ ha hb hb' Hq.out Hr.out).mono ?_
    rintro e w3 ⟨rfl, hb3⟩
    have A3 : Blk w3 (w.heap.size) #[.int .u64 (hi (a)), .int .u64 (lo (a))] 41 := Blk.below (by (repeat' (first | (with_reducible assumption) | (with_reducible exact Blk.alloc_new _ _ _ (by first | rfl | (simp; done) | omega)) | (with_reducible refine Blk.drewN ?_ _) | (with_reducible refine Blk.drew ?_) | (with_reducible refine Blk.alloc_old ?_ _) | (with_reducible apply Blk.set_same) | (with_reducible refine Blk.set_other ?_ (by first | omega | (simp; done) | (simp; omega)) _) | (exact rfl)))) hb3 (by first | (simp; done) | omega | (simp; omega))
    have D3 : Blk w3 (w1.heap.size) #[.int .u64 (hi (q)), .int .u64 (lo (q))] 41 := Blk.below (by (repeat' (first | (with_reducible assumption) | (with_reducible exact Blk.alloc_new _ _ _ (by first | rfl | (simp; done) | omega)) | (with_reducible refine Blk.drewN ?_ _) | (with_reducible refine Blk.drew ?_) | (with_reducible refine Blk.alloc_old ?_ _) | (with_reducible apply Blk.set_same) | (with_reducible refine Blk.set_other ?_ (by first | omega | (simp; done) | (simp; omega)) _) | (exact rfl)))) hb3 (by first | (simp; done) | omega | (simp; omega))
    have g3 : Below w.heap.size w w3 := by refine Below.trans ?_ (hb3.mono ?_) <;> (repeat' (first | (with_reducible exact Below.refl _ _) | (with_reducible assumption) | (with_reducible refine below_drewN ?_ _) | (with_reducible refine Below.drew ?_) | (with_reducible refine Below.alloc ?_ ?_ _) | (with_reducible refine Below.setCell ?_ ?_ _) | go_size))
    have hz3 := hb3.size
    (try simp at hz3)
    clear hb3
    replace cA := A3.cell
    replace fA := A3.frozen
    replace zA := A3.size
    replace cD := D3.cell
    replace fD := D3.frozen
    replace zD := D3.size
    go_wp2_with fail
    refine (same_true q _).mono ?_
    rintro e w4 ⟨rfl, hb4⟩
    have A4 : Blk w4 (w.heap.size) #[.int .u64 (hi (a)), .int .u64 (lo (a))] 41 := Blk.below (by (repeat' (first | (with_reducible assumption) | (with_reducible exact Blk.alloc_new _ _ _ (by first | rfl | (simp; done) | omega)) | (with_reducible refine Blk.drewN ?_ _) | (with_reducible refine Blk.drew ?_) | (with_reducible refine Blk.alloc_old ?_ _) | (with_reducible apply Blk.set_same) | (with_reducible refine Blk.set_other ?_ (by first | omega | (simp; done) | (simp; omega)) _) | (exact rfl)))) hb4 (by first | (simp; done) | omega | (simp; omega))
    have D4 : Blk w4 (w1.heap.size) #[.int .u64 (hi (q)), .int .u64 (lo (q))] 41 := Blk.below (by (repeat' (first | (with_reducible assumption) | (with_reducible exact Blk.alloc_new _ _ _ (by first | rfl | (simp; done) | omega)) | (with_reducible refine Blk.drewN ?_ _) | (with_reducible refine Blk.drew ?_) | (with_reducible refine Blk.alloc_old ?_ _) | (with_reducible apply Blk.set_same) | (with_reducible refine Blk.set_other ?_ (by first | omega | (simp; done) | (simp; omega)) _) | (exact rfl)))) hb4 (by first | (simp; done) | omega | (simp; omega))
    have g4 : Below w.heap.size w w4 := by refine Below.trans ?_ (hb4.mono ?_) <;> (repeat' (first | (with_reducible exact Below.refl _ _) | (with_reducible assumption) | (with_reducible refine below_drewN ?_ _) | (with_reducible refine Below.drew ?_) | (with_reducible refine Below.alloc ?_ ?_ _) | (with_reducible refine Below.setCell ?_ ?_ _) | go_size))
    have hz4 := hb4.size
    (try simp at hz4)
    clear hb4
    replace cA := A4.cell
    replace fA := A4.frozen
    replace zA := A4.size
    replace cD := D4.cell
    replace fD := D4.frozen
    replace zD := D4.size
    go_wp2_with fail
    refine (wMul (lo q) b _ rl.1 rl.2 (by omega) hb').mono ?_
    rintro e w5 ⟨rfl, hb5⟩
    have A5 : Blk w5 (w.heap.size) #[.int .u64 (hi (a)), .int .u64 (lo (a))] 41 := Blk.below (by (repeat' (first | (with_reducible assumption) | (with_reducible exact Blk.alloc_new _ _ _ (by first | rfl | (simp; done) | omega)) | (with_reducible refine Blk.drewN ?_ _) | (with_reducible refine Blk.drew ?_) | (with_reducible refine Blk.alloc_old ?_ _) | (with_reducible apply Blk.set_same) | (with_reducible refine Blk.set_other ?_ (by first | omega | (simp; done) | (simp; omega)) _) | (exact rfl)))) hb5 (by first | (simp; done) | omega | (simp; omega))
    have D5 : Blk w5 (w1.heap.size) #[.int .u64 (hi (q)), .int .u64 (lo (q))] 41 := Blk.below (by (repeat' (first | (with_reducible assumption) | (with_reducible exact Blk.alloc_new _ _ _ (by first | rfl | (simp; done) | omega)) | (with_reducible refine Blk.drewN ?_ _) | (with_reducible refine Blk.drew ?_) | (with_reducible refine Blk.alloc_old ?_ _) | (with_reducible apply Blk.set_same) | (with_reducible refine Blk.set_other ?_ (by first | omega | (simp; done) | (simp; omega)) _) | (exact rfl)))) hb5 (by first | (simp; done) | omega | (simp; omega))
    have g5 : Below w.heap.size w w5 := by refine Below.trans ?_ (hb5.mono ?_) <;> (repeat' (first | (with_reducible exact Below.refl _ _) | (with_reducible assumption) | (with_reducible refine below_drewN ?_ _) | (with_reducible refine Below.drew ?_) | (with_reducible refine Below.alloc ?_ ?_ _) | (with_reducible refine Below.setCell ?_ ?_ _) | go_size))
    have hz5 := hb5.size
    (try simp at hz5)
    clear hb5
    replace cA := A5.cell
    replace fA := A5.frozen
    replace zA := A5.size
    replace cD := D5.cell
    replace fD := D5.frozen
    replace zD := D5.size
    go_wp2_with fail
    refine (wOf r _ h2 (by omega)).mono ?_
    rintro e w6 ⟨rfl, hb6⟩
    have A6 : Blk w6 (w.heap.size) #[.int .u64 (hi (a)), .int .u64 (lo (a))] 41 := Blk.below (by (repeat' (first | (with_reducible assumption) | (with_reducible exact Blk.alloc_new _ _ _ (by first | rfl | (simp; done) | omega)) | (with_reducible refine Blk.drewN ?_ _) | (with_reducible refine Blk.drew ?_) | (with_reducible refine Blk.alloc_old ?_ _) | (with_reducible apply Blk.set_same) | (with_reducible refine Blk.set_other ?_ (by first | omega | (simp; done) | (simp; omega)) _) | (exact rfl)))) hb6 (by first | (simp; done) | omega | (simp; omega))
    have D6 : Blk w6 (w1.heap.size) #[.int .u64 (hi (q)), .int .u64 (lo (q))] 41 := Blk.below (by (repeat' (first | (with_reducible assumption) | (with_reducible exact Blk.alloc_new _ _ _ (by first | rfl | (simp; done) | omega)) | (with_reducible refine Blk.drewN ?_ _) | (with_reducible refine Blk.drew ?_) | (with_reducible refine Blk.alloc_old ?_ _) | (with_reducible apply Blk.set_same) | (with_reducible refine Blk.set_other ?_ (by first | omega | (simp; done) | (simp; omega)) _) | (exact rfl)))) hb6 (by first | (simp; done) | omega | (simp; omega))
    have g6 : Below w.heap.size w w6 := by refine Below.trans ?_ (hb6.mono ?_) <;> (repeat' (first | (with_reducible exact Below.refl _ _) | (with_reducible assumption) | (with_reducible refine below_drewN ?_ _) | (with_reducible refine Below.drew ?_) | (with_reducible refine Below.alloc ?_ ?_ _) | (with_reducible refine Below.setCell ?_ ?_ _) | go_size))
    have hz6 := hb6.size
    (try simp at hz6)
    clear hb6
    replace cA := A6.cell
    replace fA := A6.frozen
    replace zA := A6.size
    replace cD := D6.cell
    replace fD := D6.frozen
    replace zD := D6.size
    go_wp2_with fail
    refine (wAdd_of5 (a := lo q * b) (b := r) (c := a) rfl rfl hs.out _ p128 r128 ha).mono ?_
    rintro e w7 ⟨rfl, hb7⟩
    have A7 : Blk w7 (w.heap.size) #[.int .u64 (hi (a)), .int .u64 (lo (a))] 41 := Blk.below (by (repeat' (first | (with_reducible assumption) | (with_reducible exact Blk.alloc_new _ _ _ (by first | rfl | (simp; done) | omega)) | (with_reducible refine Blk.drewN ?_ _) | (with_reducible refine Blk.drew ?_) | (with_reducible refine Blk.alloc_old ?_ _) | (with_reducible apply Blk.set_same) | (with_reducible refine Blk.set_other ?_ (by first | omega | (simp; done) | (simp; omega)) _) | (exact rfl)))) hb7 (by first | (simp; done) | omega | (simp; omega))
    have D7 : Blk w7 (w1.heap.size) #[.int .u64 (hi (q)), .int .u64 (lo (q))] 41 := Blk.below (by (repeat' (first | (with_reducible assumption) | (with_reducible exact Blk.alloc_new _ _ _ (by first | rfl | (simp; done) | omega)) | (with_reducible refine Blk.drewN ?_ _) | (with_reducible refine Blk.drew ?_) | (with_reducible refine Blk.alloc_old ?_ _) | (with_reducible apply Blk.set_same) | (with_reducible refine Blk.set_other ?_ (by first | omega | (simp; done) | (simp; omega)) _) | (exact rfl)))) hb7 (by first | (simp; done) | omega | (simp; omega))
    have g7 : Below w.heap.size w w7 := by refine Below.trans ?_ (hb7.mono ?_) <;> (repeat' (first | (with_reducible exact Below.refl _ _) | (with_reducible assumption) | (with_reducible refine below_drewN ?_ _) | (with_reducible refine Below.drew ?_) | (with_reducible refine Below.alloc ?_ ?_ _) | (with_reducible refine Below.setCell ?_ ?_ _) | go_size))
    have hz7 := hb7.size
    (try simp at hz7)
    clear hb7
    replace cA := A7.cell
    replace fA := A7.frozen
    replace zA := A7.size
    replace cD := D7.cell
    replace fD := D7.frozen
    replace zD := D7.size
    go_wp2_with fail
    refine (six_true _).mono ?_
    rintro e w8 ⟨rfl, hb8⟩
    have A8 : Blk w8 (w.heap.size) #[.int .u64 (hi (a)), .int .u64 (lo (a))] 41 := Blk.below (by (repeat' (first | (with_reducible assumption) | (with_reducible exact Blk.alloc_new _ _ _ (by first | rfl | (simp; done) | omega)) | (with_reducible refine Blk.drewN ?_ _) | (with_reducible refine Blk.drew ?_) | (with_reducible refine Blk.alloc_old ?_ _) | (with_reducible apply Blk.set_same) | (with_reducible refine Blk.set_other ?_ (by first | omega | (simp; done) | (simp; omega)) _) | (exact rfl)))) hb8 (by first | (simp; done) | omega | (simp; omega))
    have g8 : Below w.heap.size w w8 := by refine Below.trans ?_ (hb8.mono ?_) <;> (repeat' (first | (with_reducible exact Below.refl _ _) | (with_reducible assumption) | (with_reducible refine below_drewN ?_ _) | (with_reducible refine Below.drew ?_) | (with_reducible refine Below.alloc ?_ ?_ _) | (with_reducible refine Below.setCell ?_ ?_ _) | go_size))
    have hz8 := hb8.size
    (try simp at hz8)
    clear hb8
    replace cA := A8.cell
    replace fA := A8.frozen
    replace zA := A8.size
    go_wp2
    go_ret
    exact ⟨rfl, by (repeat' (first | (with_reducible exact Below.refl _ _) | (with_reducible assumption) | (with_reducible refine below_drewN ?_ _) | (with_reducible refine Below.drew ?_) | (with_reducible refine Below.alloc ?_ ?_ _) | (with_reducible refine Below.setCell ?_ ?_ _) | go_size))⟩
  · have b0 : (hi q == 0) = false := beq_eq_false_iff_ne.2 hh
    clear hh
    go_enter Try.func12, Try.ntmps12
    go_wp2_with fail
    refine (wDiv_of a b q r _ ha hb hb' Hq.out Hr.out).mono ?_
    rintro e w1 ⟨rfl, hb1⟩
    have A1 : Blk w1 (w.heap.size) #[.int .u64 (hi (a)), .int .u64 (lo (a))] 41 := Blk.below (by (repeat' (first | (with_reducible assumption) | (with_reducible exact Blk.alloc_new _ _ _ (by first | rfl | (simp; done) | omega)) | (with_reducible refine Blk.drewN ?_ _) | (with_reducible refine Blk.drew ?_) | (with_reducible refine Blk.alloc_old ?_ _) | (with_reducible apply Blk.set_same) | (with_reducible refine Blk.set_other ?_ (by first | omega | (simp; done) | (simp; omega)) _) | (exact rfl)))) hb1 (by first | (simp; done) | omega | (simp; omega))
    have g1 : Below w.heap.size w w1 := by refine Below.trans ?_ (hb1.mono ?_) <;> (repeat' (first | (with_reducible exact Below.refl _ _) | (with_reducible assumption) | (with_reducible refine below_drewN ?_ _) | (with_reducible refine Below.drew ?_) | (with_reducible refine Below.alloc ?_ ?_ _) | (with_reducible refine Below.setCell ?_ ?_ _) | go_size))
    have hz1 := hb1.size
    (try simp at hz1)
    clear hb1
    replace cA := A1.cell
    replace fA := A1.frozen
    replace zA := A1.size
    go_wp2_with fail
    refine (lref a _ ha).mono ?_
    rintro e w2 ⟨rfl, hb2⟩
    have A2 : Blk w2 (w.heap.size) #[.int .u64 (hi (a)), .int .u64 (lo (a))] 41 := Blk.below (by (repeat' (first | (with_reducible assumption) | (with_reducible exact Blk.alloc_new _ _ _ (by first | rfl | (simp; done) | omega)) | (with_reducible refine Blk.drewN ?_ _) | (with_reducible refine Blk.drew ?_) | (with_reducible refine Blk.alloc_old ?_ _) | (with_reducible apply Blk.set_same) | (with_reducible refine Blk.set_other ?_ (by first | omega | (simp; done) | (simp; omega)) _) | (exact rfl)))) hb2 (by first | (simp; done) | omega | (simp; omega))
    have D2 : Blk w2 (w1.heap.size) #[.int .u64 (hi (q)), .int .u64 (lo (q))] 41 := Blk.below (by (repeat' (first | (with_reducible assumption) | (with_reducible exact Blk.alloc_new _ _ _ (by first | rfl | (simp; done) | omega)) | (with_reducible refine Blk.drewN ?_ _) | (with_reducible refine Blk.drew ?_) | (with_reducible refine Blk.alloc_old ?_ _) | (with_reducible apply Blk.set_same) | (with_reducible refine Blk.set_other ?_ (by first | omega | (simp; done) | (simp; omega)) _) | (exact rfl)))) hb2 (by first | (simp; done) | omega | (simp; omega))
    have g2 : Below w.heap.size w w2 := by refine Below.trans ?_ (hb2.mono ?_) <;> (repeat' (first | (with_reducible exact Below.refl _ _) | (with_reducible assumption) | (with_reducible refine below_drewN ?_ _) | (with_reducible refine Below.drew ?_) | (with_reducible refine Below.alloc ?_ ?_ _) | (with_reducible refine Below.setCell ?_ ?_ _) | go_size))
    have hz2 := hb2.size
    (try simp at hz2)
    clear hb2
    replace cA := A2.cell
    replace fA := A2.frozen
    replace zA := A2.size
    replace cD := D2.cell
    replace fD := D2.frozen
    replace zD := D2.size
    go_wp2_with fail
    refine (rQuo_of a b q r _ ha hb hb' Hq.out Hr.out).mono ?_
    rintro e w3 ⟨rfl, hb3⟩
    have A3 : Blk w3 (w.heap.size) #[.int .u64 (hi (a)), .int .u64 (lo (a))] 41 := Blk.below (by (repeat' (first | (with_reducible assumption) | (with_reducible exact Blk.alloc_new _ _ _ (by first | rfl | (simp; done) | omega)) | (with_reducible refine Blk.drewN ?_ _) | (with_reducible refine Blk.drew ?_) | (with_reducible refine Blk.alloc_old ?_ _) | (with_reducible apply Blk.set_same) | (with_reducible refine Blk.set_other ?_ (by first | omega | (simp; done) | (simp; omega)) _) | (exact rfl)))) hb3 (by first | (simp; done) | omega | (simp; omega))
    have D3 : Blk w3 (w1.heap.size) #[.int .u64 (hi (q)), .int .u64 (lo (q))] 41 := Blk.below (by (repeat' (first | (with_reducible assumption) | (with_reducible exact Blk.alloc_new _ _ _ (by first | rfl | (simp; done) | omega)) | (with_reducible refine Blk.drewN ?_ _) | (with_reducible refine Blk.drew ?_) | (with_reducible refine Blk.alloc_old ?_ _) | (with_reducible apply Blk.set_same) | (with_reducible refine Blk.set_other ?_ (by first | omega | (simp; done) | (simp; omega)) _) | (exact rfl)))) hb3 (by first | (simp; done) | omega | (simp; omega))
    have g3 : Below w.heap.size w w3 := by refine Below.trans ?_ (hb3.mono ?_) <;> (repeat' (first | (with_reducible exact Below.refl _ _) | (with_reducible assumption) | (with_reducible refine below_drewN ?_ _) | (with_reducible refine Below.drew ?_) | (with_reducible refine Below.alloc ?_ ?_ _) | (with_reducible refine Below.setCell ?_ ?_ _) | go_size))
    have hz3 := hb3.size
    (try simp at hz3)
    clear hb3
    replace cA := A3.cell
    replace fA := A3.frozen
    replace zA := A3.size
    replace cD := D3.cell
    replace fD := D3.frozen
    replace zD := D3.size
    go_wp2_with fail
    refine (same_true q _).mono ?_
    rintro e w4 ⟨rfl, hb4⟩
    have A4 : Blk w4 (w.heap.size) #[.int .u64 (hi (a)), .int .u64 (lo (a))] 41 := Blk.below (by (repeat' (first | (with_reducible assumption) | (with_reducible exact Blk.alloc_new _ _ _ (by first | rfl | (simp; done) | omega)) | (with_reducible refine Blk.drewN ?_ _) | (with_reducible refine Blk.drew ?_) | (with_reducible refine Blk.alloc_old ?_ _) | (with_reducible apply Blk.set_same) | (with_reducible refine Blk.set_other ?_ (by first | omega | (simp; done) | (simp; omega)) _) | (exact rfl)))) hb4 (by first | (simp; done) | omega | (simp; omega))
    have D4 : Blk w4 (w1.heap.size) #[.int .u64 (hi (q)), .int .u64 (lo (q))] 41 := Blk.below (by (repeat' (first | (with_reducible assumption) | (with_reducible exact Blk.alloc_new _ _ _ (by first | rfl | (simp; done) | omega)) | (with_reducible refine Blk.drewN ?_ _) | (with_reducible refine Blk.drew ?_) | (with_reducible refine Blk.alloc_old ?_ _) | (with_reducible apply Blk.set_same) | (with_reducible refine Blk.set_other ?_ (by first | omega | (simp; done) | (simp; omega)) _) | (exact rfl)))) hb4 (by first | (simp; done) | omega | (simp; omega))
    have g4 : Below w.heap.size w w4 := by refine Below.trans ?_ (hb4.mono ?_) <;> (repeat' (first | (with_reducible exact Below.refl _ _) | (with_reducible assumption) | (with_reducible refine below_drewN ?_ _) | (with_reducible refine Below.drew ?_) | (with_reducible refine Below.alloc ?_ ?_ _) | (with_reducible refine Below.setCell ?_ ?_ _) | go_size))
    have hz4 := hb4.size
    (try simp at hz4)
    clear hb4
    replace cA := A4.cell
    replace fA := A4.frozen
    replace zA := A4.size
    replace cD := D4.cell
    replace fD := D4.frozen
    replace zD := D4.size
    go_wp2_with fail
    refine (six_true _).mono ?_
    rintro e w5 ⟨rfl, hb5⟩
    have A5 : Blk w5 (w.heap.size) #[.int .u64 (hi (a)), .int .u64 (lo (a))] 41 := Blk.below (by (repeat' (first | (with_reducible assumption) | (with_reducible exact Blk.alloc_new _ _ _ (by first | rfl | (simp; done) | omega)) | (with_reducible refine Blk.drewN ?_ _) | (with_reducible refine Blk.drew ?_) | (with_reducible refine Blk.alloc_old ?_ _) | (with_reducible apply Blk.set_same) | (with_reducible refine Blk.set_other ?_ (by first | omega | (simp; done) | (simp; omega)) _) | (exact rfl)))) hb5 (by first | (simp; done) | omega | (simp; omega))
    have g5 : Below w.heap.size w w5 := by refine Below.trans ?_ (hb5.mono ?_) <;> (repeat' (first | (with_reducible exact Below.refl _ _) | (with_reducible assumption) | (with_reducible refine below_drewN ?_ _) | (with_reducible refine Below.drew ?_) | (with_reducible refine Below.alloc ?_ ?_ _) | (with_reducible refine Below.setCell ?_ ?_ _) | go_size))
    have hz5 := hb5.size
    (try simp at hz5)
    clear hb5
    replace cA := A5.cell
    replace fA := A5.frozen
    replace zA := A5.size
    go_wp2
    go_ret
    exact ⟨rfl, by (repeat' (first | (with_reducible exact Below.refl _ _) | (with_reducible assumption) | (with_reducible refine below_drewN ?_ _) | (with_reducible refine Below.drew ?_) | (with_reducible refine Below.alloc ?_ ?_ _) | (with_reducible refine Below.setCell ?_ ?_ _) | go_size))⟩
theorem WideDivs_walk (a1 : Int) (h1 : 0 ≤ a1 ∧ a1 ≤ 18446744073709551615) (a2 : Int) (h2 : 0 ≤ a2 ∧ a2 ≤ 18446744073709551615) (b : Int) (hb : 0 ≤ b ∧ b ≤ 18446744073709551615) (w : World) :
    Calls Try.prog 12 #[.agg #[.int .u64 a1, .int .u64 a2], .int .u64 b] w fun e w' => e = .returned (.bool true) ∧ Below w.heap.size w w' := by
  obtain ⟨a, ha, rfl, rfl⟩ := wv_of h1 h2
  rcases Int.lt_or_eq_of_le hb.1 with h | rfl
  · exact WD_1 a b w ha (by omega) hb.2
  · exact WD_0 a w
namespace wideDivsDone
theorem own : ownKnob Try.prog.godebug = none := by kernel_rfl
theorem laidOut : laidOutB Try.prog = true := by kernel_rfl
set_option maxRecDepth 100000 in
theorem lifted (os : Os) (started : os.Started) (H : Type) (enc : TypeId × Value → H) :
    ReturnsInHanded {} Try.checked os 12 .any (Rows.wideDivsSpec.pre6 enc Try.prog Try.f12 Rows.wideDivsRow.domain false) (Rows.wideDivsSpec.post enc Try.prog Try.f12 false true false false) := by
  refine returnsInHanded_of_change (C := Try.checked) own started (by kernel_rfl) Try.func12
    (ChangeSpec.witness6 (enc := enc) (C := Try.checked) false ⟨#[], #[.agg #[.int .u64 0, .int .u64 0], .int .u64 0], []⟩ 8 (by kernel_rfl) (by kernel_rfl) (by kernel_rfl) (by kernel_rfl)) ?_
  intro W base args ds gs before hval0 hW hcnd _
  have hval : ∀ (j : Nat) t v, Try.f12.params[j]? = some t → args[j]? = some v → Value.okWide Try.prog W .any base t v := hval0
  have hW' := hW
  obtain ⟨p, q, hA0, hV, rfl, hfz, hnd⟩ := hW
  have hA : DataW.TrodAll enc Try.prog W 0 (fun _ => true) true Try.f12.params.toList args.toList ds p := hA0
  rw [Try.params12] at hA hval
  obtain ⟨v0, vs0, d0, ds0, p0, q0, hargs, rfl, rfl, h0, r0⟩ := trodAll_cons hA
  obtain ⟨v1, vs1, d1, ds1, p1, q1, rfl, rfl, rfl, h1, r1⟩ := trodAll_cons r0
  obtain ⟨rfl, rfl, rfl⟩ := trodAll_nil r1
  obtain rfl : args = #[v0, v1] := by cases args; simp_all
  obtain ⟨rfl, rfl⟩ := trodVars_none hV
  have k0 := h0
  have lt0 : ∀ x ∈ p0, x.block < W.heap.size := by obtain ⟨m, hm⟩ := k0; exact DataW.trod_lt m _ _ _ hm
  obtain ⟨x0_0, x0_1, y0_0, y0_1, m0, rfl, hd0, hp0, q0_0, q0_1⟩ := Joins.open_agg2 Try.underlying41 (by kernel_rfl) (show Try.prog.cellsOf 41 = 2 by kernel_rfl) (hval 0 41 v0 rfl rfl) h0
  obtain ⟨a0_0, e0_0, _, wf0_0⟩ := DataW.trod_int Try.underlying22 q0_0
  simp at e0_0
  subst e0_0
  have b0_0 := bounds_u64 wf0_0
  obtain ⟨a0_1, e0_1, _, wf0_1⟩ := DataW.trod_int Try.underlying22 q0_1
  simp at e0_1
  subst e0_1
  have b0_1 := bounds_u64 wf0_1
  obtain ⟨a1, rfl, rfl, rfl, wf1⟩ := open_int Try.underlying22 (hval 1 22 v1 rfl rfl) h1
  have b1 := bounds_u64 wf1
  clear hA0 hval0
  refine (WideDivs_walk a0_0 b0_0 a0_1 b0_1 a1 b1 W).mono fun e W' ⟨he, bel⟩ => ?_
  subst he
  exact ⟨_, rfl, _, _, _, [], _, [], hW', trodAll_mk1 (shut_bool Try.underlying4 _), (trodAll_cons_mk (Below.trod laidOut (by kernel_rfl) (of_decide_eq_true (by kernel_rfl)) k0 bel lt0) (trodAll_cons_mk (shut_int Try.underlying22 wf1) trodAll_mk0)), rfl, bel.frame _, fun h => by cases h⟩
theorem over : Rows.wideDivsRow.holds Try.pinned (OpenSpec.ofChange Rows.wideDivsSpec) :=
  OpenClaim.holds_of_wide 12 Try.f12 rfl rfl rfl rfl rfl rfl rfl ⟨rfl, rfl, rfl, rfl, rfl⟩ rfl rfl rfl rfl rfl (by kernel_rfl) Try.func12 (by kernel_rfl)
    (of_decide_eq_true (by kernel_rfl)) (by unfold Func.isWrapper; first | (rw [if_pos (by decide +kernel)]; kernel_rfl) | (rw [if_neg (by decide +kernel)]; exact ⟨rfl, rfl⟩))
    (fun os started H enc _ => lifted os started H enc)
end wideDivsDone
theorem WideDivs_holds : Rows.WideDivsSaid := wideDivsDone.over

end Go.Proofs.Ytkegfnbjeafliaa
