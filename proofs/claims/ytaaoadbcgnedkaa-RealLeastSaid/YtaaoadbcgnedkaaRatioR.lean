/-
  The walks of the ratio's reference, and of the closed example 'third'. Conditions: numbers of 128 bits, of 64 bits.
-/
import Derived.Test.YtaaoadbcgnedkaaRatio
import Derived.Test.YtaaoadbcgnedkaaRefB
import Derived.Deep.RegionHeld3
namespace Go.Proofs.Ytaaoadbcgnedkaa
open Go.RowKit
set_option linter.unusedVariables false
set_option linter.unusedSimpArgs false

theorem rPlusC (a b c : Int) (w : World) (ha : In128 a) (hb : In128 b) (hs : a + b = c) (hc : In128 c) :
    Calls Try.prog 40 #[nv a, nv b] w fun e w' => e = .returned (nv c) ∧ Below w.heap.size w w' := rPlus_of rfl rfl w ha hb hs hc
theorem rceil_0 (n : Int) (w : World) :
    Calls Try.prog 72 #[nv n, .int .u64 0] w fun e w' => e = .returned (.agg #[.int .u64 0, .int .i64 1]) ∧ Below w.heap.size w w' := by
  go_enter Try.func72, Try.ntmps72
  go_wp2
  go_returns
  exact ⟨rfl, by (repeat' (first | (with_reducible (first | exact Below.refl _ _ | assumption | refine below_drewN ?_ _ | refine Below.drew ?_ | refine Below.alloc ?_ ?_ _ | refine Below.setCell ?_ ?_ _)) | go_size))⟩
theorem rceil_zn (n d : Int) (q : Int) (w : World) (hn : In128 n) (hd1 : 1 ≤ d) (hd2 : d ≤ 18446744073709551615) (hq : n / d = q) (hr : n % d = 0) (hh : hi q ≠ 0) :
    Calls Try.prog 72 #[nv n, .int .u64 d] w fun e w' => e = .returned (.agg #[.int .u64 (0), .int .i64 20]) ∧ Below w.heap.size w w' := by
  have d0 : (d == 0) = false := beq_eq_false_iff_ne.2 (by omega)
  have b0 : (hi q != 0) = true := bne_iff_ne.2 hh
  have Hq := hide hq; have Hr := hide hr
  clear hq hr hh
  go_enter Try.func72, Try.ntmps72
  go_wp2_with fail
  refine (rQuoC n d q 0 _ hn hd1 hd2 Hq.out Hr.out).mono ?_
  rintro e w1 ⟨rfl, hb1⟩
  have A1 : Blk w1 (w.heap.size) #[.int .u64 (dg0 (n)), .int .u64 (dg1 (n)), .int .u64 (dg2 (n)), .int .u64 (dg3 (n))] 31 := Blk.below (by (repeat' (first | (with_reducible (first | assumption | exact Blk.alloc_new _ _ _ (by first | rfl | (simp; done) | omega) | apply Blk.drewN | apply Blk.drew | apply Blk.alloc_old | apply Blk.set_same | apply Blk.set_other)) | (show (_ : Nat) ≠ _; first | omega | (simp; done) | (simp; omega)) | ((simp only [List.setIfInBounds_toArray, List.set_cons_succ, List.set_cons_zero]); (with_reducible exact rfl)) | (with_reducible exact rfl) | (show (_ : Array Value) = _; exact rfl)))) hb1 (by first | (simp; done) | omega | (simp; omega))
  have R1 : Blk w1 (w.heap.size + 1) #[.int .u64 0, .int .i64 0] 116 := Blk.below (by (repeat' (first | (with_reducible (first | assumption | exact Blk.alloc_new _ _ _ (by first | rfl | (simp; done) | omega) | apply Blk.drewN | apply Blk.drew | apply Blk.alloc_old | apply Blk.set_same | apply Blk.set_other)) | (show (_ : Nat) ≠ _; first | omega | (simp; done) | (simp; omega)) | ((simp only [List.setIfInBounds_toArray, List.set_cons_succ, List.set_cons_zero]); (with_reducible exact rfl)) | (with_reducible exact rfl) | (show (_ : Array Value) = _; exact rfl)))) hb1 (by first | (simp; done) | omega | (simp; omega))
  have g1 : Below w.heap.size w w1 := by refine Below.trans ?_ (hb1.mono ?_) <;> (repeat' (first | (with_reducible (first | exact Below.refl _ _ | assumption | refine below_drewN ?_ _ | refine Below.drew ?_ | refine Below.alloc ?_ ?_ _ | refine Below.setCell ?_ ?_ _)) | go_size))
  have hz1 := hb1.size
  (try simp at hz1)
  clear hb1
  replace cA := A1.cell
  replace fA := A1.frozen
  replace zA := A1.size
  replace cR := R1.cell
  replace fR := R1.frozen
  replace zR := R1.size
  go_wp2_with fail
  refine (rHi q _).mono ?_
  rintro e w2 ⟨rfl, hb2⟩
  have A2 : Blk w2 (w.heap.size) #[.int .u64 (dg0 (n)), .int .u64 (dg1 (n)), .int .u64 (dg2 (n)), .int .u64 (dg3 (n))] 31 := Blk.below (by (repeat' (first | (with_reducible (first | assumption | exact Blk.alloc_new _ _ _ (by first | rfl | (simp; done) | omega) | apply Blk.drewN | apply Blk.drew | apply Blk.alloc_old | apply Blk.set_same | apply Blk.set_other)) | (show (_ : Nat) ≠ _; first | omega | (simp; done) | (simp; omega)) | ((simp only [List.setIfInBounds_toArray, List.set_cons_succ, List.set_cons_zero]); (with_reducible exact rfl)) | (with_reducible exact rfl) | (show (_ : Array Value) = _; exact rfl)))) hb2 (by first | (simp; done) | omega | (simp; omega))
  have R2 : Blk w2 (w.heap.size + 1) #[.int .u64 0, .int .i64 0] 116 := Blk.below (by (repeat' (first | (with_reducible (first | assumption | exact Blk.alloc_new _ _ _ (by first | rfl | (simp; done) | omega) | apply Blk.drewN | apply Blk.drew | apply Blk.alloc_old | apply Blk.set_same | apply Blk.set_other)) | (show (_ : Nat) ≠ _; first | omega | (simp; done) | (simp; omega)) | ((simp only [List.setIfInBounds_toArray, List.set_cons_succ, List.set_cons_zero]); (with_reducible exact rfl)) | (with_reducible exact rfl) | (show (_ : Array Value) = _; exact rfl)))) hb2 (by first | (simp; done) | omega | (simp; omega))
  have Q2 : Blk w2 (w1.heap.size) #[.int .u64 (dg0 (q)), .int .u64 (dg1 (q)), .int .u64 (dg2 (q)), .int .u64 (dg3 (q))] 31 := Blk.below (by (repeat' (first | (with_reducible (first | assumption | exact Blk.alloc_new _ _ _ (by first | rfl | (simp; done) | omega) | apply Blk.drewN | apply Blk.drew | apply Blk.alloc_old | apply Blk.set_same | apply Blk.set_other)) | (show (_ : Nat) ≠ _; first | omega | (simp; done) | (simp; omega)) | ((simp only [List.setIfInBounds_toArray, List.set_cons_succ, List.set_cons_zero]); (with_reducible exact rfl)) | (with_reducible exact rfl) | (show (_ : Array Value) = _; exact rfl)))) hb2 (by first | (simp; done) | omega | (simp; omega))
  have g2 : Below w.heap.size w w2 := by refine Below.trans ?_ (hb2.mono ?_) <;> (repeat' (first | (with_reducible (first | exact Below.refl _ _ | assumption | refine below_drewN ?_ _ | refine Below.drew ?_ | refine Below.alloc ?_ ?_ _ | refine Below.setCell ?_ ?_ _)) | go_size))
  have hz2 := hb2.size
  (try simp at hz2)
  clear hb2
  replace cA := A2.cell
  replace fA := A2.frozen
  replace zA := A2.size
  replace cR := R2.cell
  replace fR := R2.frozen
  replace zR := R2.size
  replace cQ := Q2.cell
  replace fQ := Q2.frozen
  replace zQ := Q2.size
  go_wp2
  refine bp_forget (fun v => Below w.heap.size w v ∧ Blk v (w.heap.size + 1) #[.int .u64 (0), .int .i64 (20)] 116) ⟨by (repeat' (first | (with_reducible (first | exact Below.refl _ _ | assumption | refine below_drewN ?_ _ | refine Below.drew ?_ | refine Below.alloc ?_ ?_ _ | refine Below.setCell ?_ ?_ _)) | go_size)), by (repeat' (first | (with_reducible (first | assumption | exact Blk.alloc_new _ _ _ (by first | rfl | (simp; done) | omega) | apply Blk.drewN | apply Blk.drew | apply Blk.alloc_old | apply Blk.set_same | apply Blk.set_other)) | (show (_ : Nat) ≠ _; first | omega | (simp; done) | (simp; omega)) | ((simp only [List.setIfInBounds_toArray, List.set_cons_succ, List.set_cons_zero]); (with_reducible exact rfl)) | (with_reducible exact rfl) | (show (_ : Array Value) = _; exact rfl)))⟩ ?_
  rintro v ⟨gv, Bv⟩
  have cv := Bv.cell
  refine bodyPost_ret (v := .agg #[.int .u64 (0), .int .i64 (20)]) (by simp [results, Try.results72, go_sem, cv]) rfl ⟨rfl, gv⟩
theorem rceil_zo (n d : Int) (q : Int) (w : World) (hn : In128 n) (hd1 : 1 ≤ d) (hd2 : d ≤ 18446744073709551615) (hq : n / d = q) (hr : n % d = 0) (hh : hi q = 0) :
    Calls Try.prog 72 #[nv n, .int .u64 d] w fun e w' => e = .returned (.agg #[.int .u64 (lo q), .int .i64 0]) ∧ Below w.heap.size w w' := by
  have d0 : (d == 0) = false := beq_eq_false_iff_ne.2 (by omega)
  have b0 : (hi q != 0) = false := by simp [hh]
  have Hq := hide hq; have Hr := hide hr
  clear hq hr hh
  go_enter Try.func72, Try.ntmps72
  go_wp2_with fail
  refine (rQuoC n d q 0 _ hn hd1 hd2 Hq.out Hr.out).mono ?_
  rintro e w1 ⟨rfl, hb1⟩
  have A1 : Blk w1 (w.heap.size) #[.int .u64 (dg0 (n)), .int .u64 (dg1 (n)), .int .u64 (dg2 (n)), .int .u64 (dg3 (n))] 31 := Blk.below (by (repeat' (first | (with_reducible (first | assumption | exact Blk.alloc_new _ _ _ (by first | rfl | (simp; done) | omega) | apply Blk.drewN | apply Blk.drew | apply Blk.alloc_old | apply Blk.set_same | apply Blk.set_other)) | (show (_ : Nat) ≠ _; first | omega | (simp; done) | (simp; omega)) | ((simp only [List.setIfInBounds_toArray, List.set_cons_succ, List.set_cons_zero]); (with_reducible exact rfl)) | (with_reducible exact rfl) | (show (_ : Array Value) = _; exact rfl)))) hb1 (by first | (simp; done) | omega | (simp; omega))
  have R1 : Blk w1 (w.heap.size + 1) #[.int .u64 0, .int .i64 0] 116 := Blk.below (by (repeat' (first | (with_reducible (first | assumption | exact Blk.alloc_new _ _ _ (by first | rfl | (simp; done) | omega) | apply Blk.drewN | apply Blk.drew | apply Blk.alloc_old | apply Blk.set_same | apply Blk.set_other)) | (show (_ : Nat) ≠ _; first | omega | (simp; done) | (simp; omega)) | ((simp only [List.setIfInBounds_toArray, List.set_cons_succ, List.set_cons_zero]); (with_reducible exact rfl)) | (with_reducible exact rfl) | (show (_ : Array Value) = _; exact rfl)))) hb1 (by first | (simp; done) | omega | (simp; omega))
  have g1 : Below w.heap.size w w1 := by refine Below.trans ?_ (hb1.mono ?_) <;> (repeat' (first | (with_reducible (first | exact Below.refl _ _ | assumption | refine below_drewN ?_ _ | refine Below.drew ?_ | refine Below.alloc ?_ ?_ _ | refine Below.setCell ?_ ?_ _)) | go_size))
  have hz1 := hb1.size
  (try simp at hz1)
  clear hb1
  replace cA := A1.cell
  replace fA := A1.frozen
  replace zA := A1.size
  replace cR := R1.cell
  replace fR := R1.frozen
  replace zR := R1.size
  go_wp2_with fail
  refine (rHi q _).mono ?_
  rintro e w2 ⟨rfl, hb2⟩
  have A2 : Blk w2 (w.heap.size) #[.int .u64 (dg0 (n)), .int .u64 (dg1 (n)), .int .u64 (dg2 (n)), .int .u64 (dg3 (n))] 31 := Blk.below (by (repeat' (first | (with_reducible (first | assumption | exact Blk.alloc_new _ _ _ (by first | rfl | (simp; done) | omega) | apply Blk.drewN | apply Blk.drew | apply Blk.alloc_old | apply Blk.set_same | apply Blk.set_other)) | (show (_ : Nat) ≠ _; first | omega | (simp; done) | (simp; omega)) | ((simp only [List.setIfInBounds_toArray, List.set_cons_succ, List.set_cons_zero]); (with_reducible exact rfl)) | (with_reducible exact rfl) | (show (_ : Array Value) = _; exact rfl)))) hb2 (by first | (simp; done) | omega | (simp; omega))
  have R2 : Blk w2 (w.heap.size + 1) #[.int .u64 0, .int .i64 0] 116 := Blk.below (by (repeat' (first | (with_reducible (first | assumption | exact Blk.alloc_new _ _ _ (by first | rfl | (simp; done) | omega) | apply Blk.drewN | apply Blk.drew | apply Blk.alloc_old | apply Blk.set_same | apply Blk.set_other)) | (show (_ : Nat) ≠ _; first | omega | (simp; done) | (simp; omega)) | ((simp only [List.setIfInBounds_toArray, List.set_cons_succ, List.set_cons_zero]); (with_reducible exact rfl)) | (with_reducible exact rfl) | (show (_ : Array Value) = _; exact rfl)))) hb2 (by first | (simp; done) | omega | (simp; omega))
  have Q2 : Blk w2 (w1.heap.size) #[.int .u64 (dg0 (q)), .int .u64 (dg1 (q)), .int .u64 (dg2 (q)), .int .u64 (dg3 (q))] 31 := Blk.below (by (repeat' (first | (with_reducible (first | assumption | exact Blk.alloc_new _ _ _ (by first | rfl | (simp; done) | omega) | apply Blk.drewN | apply Blk.drew | apply Blk.alloc_old | apply Blk.set_same | apply Blk.set_other)) | (show (_ : Nat) ≠ _; first | omega | (simp; done) | (simp; omega)) | ((simp only [List.setIfInBounds_toArray, List.set_cons_succ, List.set_cons_zero]); (with_reducible exact rfl)) | (with_reducible exact rfl) | (show (_ : Array Value) = _; exact rfl)))) hb2 (by first | (simp; done) | omega | (simp; omega))
  have g2 : Below w.heap.size w w2 := by refine Below.trans ?_ (hb2.mono ?_) <;> (repeat' (first | (with_reducible (first | exact Below.refl _ _ | assumption | refine below_drewN ?_ _ | refine Below.drew ?_ | refine Below.alloc ?_ ?_ _ | refine Below.setCell ?_ ?_ _)) | go_size))
  have hz2 := hb2.size
  (try simp at hz2)
  clear hb2
  replace cA := A2.cell
  replace fA := A2.frozen
  replace zA := A2.size
  replace cR := R2.cell
  replace fR := R2.frozen
  replace zR := R2.size
  replace cQ := Q2.cell
  replace fQ := Q2.frozen
  replace zQ := Q2.size
  go_wp2_with fail
  refine (rLo q _).mono ?_
  rintro e w3 ⟨rfl, hb3⟩
  have A3 : Blk w3 (w.heap.size) #[.int .u64 (dg0 (n)), .int .u64 (dg1 (n)), .int .u64 (dg2 (n)), .int .u64 (dg3 (n))] 31 := Blk.below (by (repeat' (first | (with_reducible (first | assumption | exact Blk.alloc_new _ _ _ (by first | rfl | (simp; done) | omega) | apply Blk.drewN | apply Blk.drew | apply Blk.alloc_old | apply Blk.set_same | apply Blk.set_other)) | (show (_ : Nat) ≠ _; first | omega | (simp; done) | (simp; omega)) | ((simp only [List.setIfInBounds_toArray, List.set_cons_succ, List.set_cons_zero]); (with_reducible exact rfl)) | (with_reducible exact rfl) | (show (_ : Array Value) = _; exact rfl)))) hb3 (by first | (simp; done) | omega | (simp; omega))
  have R3 : Blk w3 (w.heap.size + 1) #[.int .u64 0, .int .i64 0] 116 := Blk.below (by (repeat' (first | (with_reducible (first | assumption | exact Blk.alloc_new _ _ _ (by first | rfl | (simp; done) | omega) | apply Blk.drewN | apply Blk.drew | apply Blk.alloc_old | apply Blk.set_same | apply Blk.set_other)) | (show (_ : Nat) ≠ _; first | omega | (simp; done) | (simp; omega)) | ((simp only [List.setIfInBounds_toArray, List.set_cons_succ, List.set_cons_zero]); (with_reducible exact rfl)) | (with_reducible exact rfl) | (show (_ : Array Value) = _; exact rfl)))) hb3 (by first | (simp; done) | omega | (simp; omega))
  have Q3 : Blk w3 (w1.heap.size) #[.int .u64 (dg0 (q)), .int .u64 (dg1 (q)), .int .u64 (dg2 (q)), .int .u64 (dg3 (q))] 31 := Blk.below (by (repeat' (first | (with_reducible (first | assumption | exact Blk.alloc_new _ _ _ (by first | rfl | (simp; done) | omega) | apply Blk.drewN | apply Blk.drew | apply Blk.alloc_old | apply Blk.set_same | apply Blk.set_other)) | (show (_ : Nat) ≠ _; first | omega | (simp; done) | (simp; omega)) | ((simp only [List.setIfInBounds_toArray, List.set_cons_succ, List.set_cons_zero]); (with_reducible exact rfl)) | (with_reducible exact rfl) | (show (_ : Array Value) = _; exact rfl)))) hb3 (by first | (simp; done) | omega | (simp; omega))
  have g3 : Below w.heap.size w w3 := by refine Below.trans ?_ (hb3.mono ?_) <;> (repeat' (first | (with_reducible (first | exact Below.refl _ _ | assumption | refine below_drewN ?_ _ | refine Below.drew ?_ | refine Below.alloc ?_ ?_ _ | refine Below.setCell ?_ ?_ _)) | go_size))
  have hz3 := hb3.size
  (try simp at hz3)
  clear hb3
  replace cA := A3.cell
  replace fA := A3.frozen
  replace zA := A3.size
  replace cR := R3.cell
  replace fR := R3.frozen
  replace zR := R3.size
  replace cQ := Q3.cell
  replace fQ := Q3.frozen
  replace zQ := Q3.size
  go_wp2
  refine bp_forget (fun v => Below w.heap.size w v ∧ Blk v (w.heap.size + 1) #[.int .u64 (lo q), .int .i64 (0)] 116) ⟨by (repeat' (first | (with_reducible (first | exact Below.refl _ _ | assumption | refine below_drewN ?_ _ | refine Below.drew ?_ | refine Below.alloc ?_ ?_ _ | refine Below.setCell ?_ ?_ _)) | go_size)), by (repeat' (first | (with_reducible (first | assumption | exact Blk.alloc_new _ _ _ (by first | rfl | (simp; done) | omega) | apply Blk.drewN | apply Blk.drew | apply Blk.alloc_old | apply Blk.set_same | apply Blk.set_other)) | (show (_ : Nat) ≠ _; first | omega | (simp; done) | (simp; omega)) | ((simp only [List.setIfInBounds_toArray, List.set_cons_succ, List.set_cons_zero]); (with_reducible exact rfl)) | (with_reducible exact rfl) | (show (_ : Array Value) = _; exact rfl)))⟩ ?_
  rintro v ⟨gv, Bv⟩
  have cv := Bv.cell
  refine bodyPost_ret (v := .agg #[.int .u64 (lo q), .int .i64 (0)]) (by simp [results, Try.results72, go_sem, cv]) rfl ⟨rfl, gv⟩
theorem rceil_pn (n d : Int) (q r q1 : Int) (w : World) (hn : In128 n) (hd1 : 1 ≤ d) (hd2 : d ≤ 18446744073709551615) (hq : n / d = q) (hr : n % d = r) (rb : (r != 0) = true) (rp : 0 < r) (hq1 : q + 1 = q1) (h128 : In128 q) (hu : In128 q1) (hh : hi q1 ≠ 0) :
    Calls Try.prog 72 #[nv n, .int .u64 d] w fun e w' => e = .returned (.agg #[.int .u64 (0), .int .i64 20]) ∧ Below w.heap.size w w' := by
  have d0 : (d == 0) = false := beq_eq_false_iff_ne.2 (by omega)
  have b0 : (hi q1 != 0) = true := bne_iff_ne.2 hh
  have Hq := hide hq; have Hr := hide hr
  clear hq hr hh
  have Hq1 := hide hq1
  clear hq1
  have dr : decide (0 < r) = true := decide_eq_true rp
  go_enter Try.func72, Try.ntmps72
  go_wp2_with fail
  refine (rQuoC n d q r _ hn hd1 hd2 Hq.out Hr.out).mono ?_
  rintro e w1 ⟨rfl, hb1⟩
  have A1 : Blk w1 (w.heap.size) #[.int .u64 (dg0 (n)), .int .u64 (dg1 (n)), .int .u64 (dg2 (n)), .int .u64 (dg3 (n))] 31 := Blk.below (by (repeat' (first | (with_reducible (first | assumption | exact Blk.alloc_new _ _ _ (by first | rfl | (simp; done) | omega) | apply Blk.drewN | apply Blk.drew | apply Blk.alloc_old | apply Blk.set_same | apply Blk.set_other)) | (show (_ : Nat) ≠ _; first | omega | (simp; done) | (simp; omega)) | ((simp only [List.setIfInBounds_toArray, List.set_cons_succ, List.set_cons_zero]); (with_reducible exact rfl)) | (with_reducible exact rfl) | (show (_ : Array Value) = _; exact rfl)))) hb1 (by first | (simp; done) | omega | (simp; omega))
  have R1 : Blk w1 (w.heap.size + 1) #[.int .u64 0, .int .i64 0] 116 := Blk.below (by (repeat' (first | (with_reducible (first | assumption | exact Blk.alloc_new _ _ _ (by first | rfl | (simp; done) | omega) | apply Blk.drewN | apply Blk.drew | apply Blk.alloc_old | apply Blk.set_same | apply Blk.set_other)) | (show (_ : Nat) ≠ _; first | omega | (simp; done) | (simp; omega)) | ((simp only [List.setIfInBounds_toArray, List.set_cons_succ, List.set_cons_zero]); (with_reducible exact rfl)) | (with_reducible exact rfl) | (show (_ : Array Value) = _; exact rfl)))) hb1 (by first | (simp; done) | omega | (simp; omega))
  have g1 : Below w.heap.size w w1 := by refine Below.trans ?_ (hb1.mono ?_) <;> (repeat' (first | (with_reducible (first | exact Below.refl _ _ | assumption | refine below_drewN ?_ _ | refine Below.drew ?_ | refine Below.alloc ?_ ?_ _ | refine Below.setCell ?_ ?_ _)) | go_size))
  have hz1 := hb1.size
  (try simp at hz1)
  clear hb1
  replace cA := A1.cell
  replace fA := A1.frozen
  replace zA := A1.size
  replace cR := R1.cell
  replace fR := R1.frozen
  replace zR := R1.size
  go_wp2_with fail
  go_region_with (first
      | (go_at_call 63; (with_reducible refine (rOf 1 _ (by omega) (by omega)).mono ?_); rintro e w' ⟨rfl, hb'⟩; have hbx : Below w.heap.size w w' := (by refine Below.trans ?_ (Below.mono hb' ?_) <;> (repeat' (first | (with_reducible (first | exact Below.refl _ _ | assumption | refine below_drewN ?_ _ | refine Below.drew ?_ | refine Below.alloc ?_ ?_ _ | refine Below.setCell ?_ ?_ _)) | go_size))); have hbs := hb'.size; (try simp at hbs); have hkA : Blk w' (w.heap.size) #[.int .u64 (dg0 (n)), .int .u64 (dg1 (n)), .int .u64 (dg2 (n)), .int .u64 (dg3 (n))] 31 := Blk.below (by (repeat' (first | (with_reducible (first | assumption | exact Blk.alloc_new _ _ _ (by first | rfl | (simp; done) | omega) | apply Blk.drewN | apply Blk.drew | apply Blk.alloc_old | apply Blk.set_same | apply Blk.set_other)) | (show (_ : Nat) ≠ _; first | omega | (simp; done) | (simp; omega)) | ((simp only [List.setIfInBounds_toArray, List.set_cons_succ, List.set_cons_zero]); (with_reducible exact rfl)) | (with_reducible exact rfl) | (show (_ : Array Value) = _; exact rfl)))) hb' (by first | (simp; done) | omega | (simp; omega)); have cA := hkA.cell; have fA := hkA.frozen; have zA := hkA.size; have hkR : Blk w' (w.heap.size + 1) #[.int .u64 0, .int .i64 0] 116 := Blk.below (by (repeat' (first | (with_reducible (first | assumption | exact Blk.alloc_new _ _ _ (by first | rfl | (simp; done) | omega) | apply Blk.drewN | apply Blk.drew | apply Blk.alloc_old | apply Blk.set_same | apply Blk.set_other)) | (show (_ : Nat) ≠ _; first | omega | (simp; done) | (simp; omega)) | ((simp only [List.setIfInBounds_toArray, List.set_cons_succ, List.set_cons_zero]); (with_reducible exact rfl)) | (with_reducible exact rfl) | (show (_ : Array Value) = _; exact rfl)))) hb' (by first | (simp; done) | omega | (simp; omega)); have cR := hkR.cell; have fR := hkR.frozen; have zR := hkR.size; have hkQ : Blk w' (w1.heap.size) #[.int .u64 (dg0 (q)), .int .u64 (dg1 (q)), .int .u64 (dg2 (q)), .int .u64 (dg3 (q))] 31 := Blk.below (by (repeat' (first | (with_reducible (first | assumption | exact Blk.alloc_new _ _ _ (by first | rfl | (simp; done) | omega) | apply Blk.drewN | apply Blk.drew | apply Blk.alloc_old | apply Blk.set_same | apply Blk.set_other)) | (show (_ : Nat) ≠ _; first | omega | (simp; done) | (simp; omega)) | ((simp only [List.setIfInBounds_toArray, List.set_cons_succ, List.set_cons_zero]); (with_reducible exact rfl)) | (with_reducible exact rfl) | (show (_ : Array Value) = _; exact rfl)))) hb' (by first | (simp; done) | omega | (simp; omega)); have cQ := hkQ.cell; have fQ := hkQ.frozen; have zQ := hkQ.size; clear hb')
      | (go_at_call 40; (with_reducible refine (rPlusC q 1 q1 _ h128 (by unfold In128; omega) Hq1.out hu).mono ?_); rintro e w' ⟨rfl, hb'⟩; have hbx : Below w.heap.size w w' := (by refine Below.trans ?_ (Below.mono hb' ?_) <;> (repeat' (first | (with_reducible (first | exact Below.refl _ _ | assumption | refine below_drewN ?_ _ | refine Below.drew ?_ | refine Below.alloc ?_ ?_ _ | refine Below.setCell ?_ ?_ _)) | go_size))); have hbs := hb'.size; (try simp at hbs); have hkA : Blk w' (w.heap.size) #[.int .u64 (dg0 (n)), .int .u64 (dg1 (n)), .int .u64 (dg2 (n)), .int .u64 (dg3 (n))] 31 := Blk.below (by (repeat' (first | (with_reducible (first | assumption | exact Blk.alloc_new _ _ _ (by first | rfl | (simp; done) | omega) | apply Blk.drewN | apply Blk.drew | apply Blk.alloc_old | apply Blk.set_same | apply Blk.set_other)) | (show (_ : Nat) ≠ _; first | omega | (simp; done) | (simp; omega)) | ((simp only [List.setIfInBounds_toArray, List.set_cons_succ, List.set_cons_zero]); (with_reducible exact rfl)) | (with_reducible exact rfl) | (show (_ : Array Value) = _; exact rfl)))) hb' (by first | (simp; done) | omega | (simp; omega)); have cA := hkA.cell; have fA := hkA.frozen; have zA := hkA.size; have hkR : Blk w' (w.heap.size + 1) #[.int .u64 0, .int .i64 0] 116 := Blk.below (by (repeat' (first | (with_reducible (first | assumption | exact Blk.alloc_new _ _ _ (by first | rfl | (simp; done) | omega) | apply Blk.drewN | apply Blk.drew | apply Blk.alloc_old | apply Blk.set_same | apply Blk.set_other)) | (show (_ : Nat) ≠ _; first | omega | (simp; done) | (simp; omega)) | ((simp only [List.setIfInBounds_toArray, List.set_cons_succ, List.set_cons_zero]); (with_reducible exact rfl)) | (with_reducible exact rfl) | (show (_ : Array Value) = _; exact rfl)))) hb' (by first | (simp; done) | omega | (simp; omega)); have cR := hkR.cell; have fR := hkR.frozen; have zR := hkR.size; have hkQ : Blk w' (w1.heap.size) #[.int .u64 (dg0 (q)), .int .u64 (dg1 (q)), .int .u64 (dg2 (q)), .int .u64 (dg3 (q))] 31 := Blk.below (by (repeat' (first | (with_reducible (first | assumption | exact Blk.alloc_new _ _ _ (by first | rfl | (simp; done) | omega) | apply Blk.drewN | apply Blk.drew | apply Blk.alloc_old | apply Blk.set_same | apply Blk.set_other)) | (show (_ : Nat) ≠ _; first | omega | (simp; done) | (simp; omega)) | ((simp only [List.setIfInBounds_toArray, List.set_cons_succ, List.set_cons_zero]); (with_reducible exact rfl)) | (with_reducible exact rfl) | (show (_ : Array Value) = _; exact rfl)))) hb' (by first | (simp; done) | omega | (simp; omega)); have cQ := hkQ.cell; have fQ := hkQ.frozen; have zQ := hkQ.size; clear hb'))
  all_goals
    go_wp2_with fail
    refine (rHi q1 _).mono ?_
    rintro e w4 ⟨rfl, hb4⟩
    have A4 : Blk w4 (w.heap.size) #[.int .u64 (dg0 (n)), .int .u64 (dg1 (n)), .int .u64 (dg2 (n)), .int .u64 (dg3 (n))] 31 := Blk.below (by (repeat' (first | (with_reducible (first | assumption | exact Blk.alloc_new _ _ _ (by first | rfl | (simp; done) | omega) | apply Blk.drewN | apply Blk.drew | apply Blk.alloc_old | apply Blk.set_same | apply Blk.set_other)) | (show (_ : Nat) ≠ _; first | omega | (simp; done) | (simp; omega)) | ((simp only [List.setIfInBounds_toArray, List.set_cons_succ, List.set_cons_zero]); (with_reducible exact rfl)) | (with_reducible exact rfl) | (show (_ : Array Value) = _; exact rfl)))) hb4 (by first | (simp; done) | omega | (simp; omega))
    have R4 : Blk w4 (w.heap.size + 1) #[.int .u64 0, .int .i64 0] 116 := Blk.below (by (repeat' (first | (with_reducible (first | assumption | exact Blk.alloc_new _ _ _ (by first | rfl | (simp; done) | omega) | apply Blk.drewN | apply Blk.drew | apply Blk.alloc_old | apply Blk.set_same | apply Blk.set_other)) | (show (_ : Nat) ≠ _; first | omega | (simp; done) | (simp; omega)) | ((simp only [List.setIfInBounds_toArray, List.set_cons_succ, List.set_cons_zero]); (with_reducible exact rfl)) | (with_reducible exact rfl) | (show (_ : Array Value) = _; exact rfl)))) hb4 (by first | (simp; done) | omega | (simp; omega))
    have Q4 : Blk w4 (w1.heap.size) #[.int .u64 (dg0 (q1)), .int .u64 (dg1 (q1)), .int .u64 (dg2 (q1)), .int .u64 (dg3 (q1))] 31 := Blk.below (by (repeat' (first | (with_reducible (first | assumption | exact Blk.alloc_new _ _ _ (by first | rfl | (simp; done) | omega) | apply Blk.drewN | apply Blk.drew | apply Blk.alloc_old | apply Blk.set_same | apply Blk.set_other)) | (show (_ : Nat) ≠ _; first | omega | (simp; done) | (simp; omega)) | ((simp only [List.setIfInBounds_toArray, List.set_cons_succ, List.set_cons_zero]); (with_reducible exact rfl)) | (with_reducible exact rfl) | (show (_ : Array Value) = _; exact rfl)))) hb4 (by first | (simp; done) | omega | (simp; omega))
    have g4 : Below w.heap.size w w4 := by refine Below.trans ?_ (hb4.mono ?_) <;> (repeat' (first | (with_reducible (first | exact Below.refl _ _ | assumption | refine below_drewN ?_ _ | refine Below.drew ?_ | refine Below.alloc ?_ ?_ _ | refine Below.setCell ?_ ?_ _)) | go_size))
    have hz4 := hb4.size
    (try simp at hz4)
    clear hb4
    replace cA := A4.cell
    replace fA := A4.frozen
    replace zA := A4.size
    replace cR := R4.cell
    replace fR := R4.frozen
    replace zR := R4.size
    replace cQ := Q4.cell
    replace fQ := Q4.frozen
    replace zQ := Q4.size
    go_wp2
    refine bp_forget (fun v => Below w.heap.size w v ∧ Blk v (w.heap.size + 1) #[.int .u64 (0), .int .i64 (20)] 116) ⟨by (repeat' (first | (with_reducible (first | exact Below.refl _ _ | assumption | refine below_drewN ?_ _ | refine Below.drew ?_ | refine Below.alloc ?_ ?_ _ | refine Below.setCell ?_ ?_ _)) | go_size)), by (repeat' (first | (with_reducible (first | assumption | exact Blk.alloc_new _ _ _ (by first | rfl | (simp; done) | omega) | apply Blk.drewN | apply Blk.drew | apply Blk.alloc_old | apply Blk.set_same | apply Blk.set_other)) | (show (_ : Nat) ≠ _; first | omega | (simp; done) | (simp; omega)) | ((simp only [List.setIfInBounds_toArray, List.set_cons_succ, List.set_cons_zero]); (with_reducible exact rfl)) | (with_reducible exact rfl) | (show (_ : Array Value) = _; exact rfl)))⟩ ?_
    rintro v ⟨gv, Bv⟩
    have cv := Bv.cell
    refine bodyPost_ret (v := .agg #[.int .u64 (0), .int .i64 (20)]) (by simp [results, Try.results72, go_sem, cv]) rfl ⟨rfl, gv⟩
theorem rceil_po (n d : Int) (q r q1 : Int) (w : World) (hn : In128 n) (hd1 : 1 ≤ d) (hd2 : d ≤ 18446744073709551615) (hq : n / d = q) (hr : n % d = r) (rb : (r != 0) = true) (rp : 0 < r) (hq1 : q + 1 = q1) (h128 : In128 q) (hu : In128 q1) (hh : hi q1 = 0) :
    Calls Try.prog 72 #[nv n, .int .u64 d] w fun e w' => e = .returned (.agg #[.int .u64 (lo q1), .int .i64 0]) ∧ Below w.heap.size w w' := by
  have d0 : (d == 0) = false := beq_eq_false_iff_ne.2 (by omega)
  have b0 : (hi q1 != 0) = false := by simp [hh]
  have Hq := hide hq; have Hr := hide hr
  clear hq hr hh
  have Hq1 := hide hq1
  clear hq1
  have dr : decide (0 < r) = true := decide_eq_true rp
  go_enter Try.func72, Try.ntmps72
  go_wp2_with fail
  refine (rQuoC n d q r _ hn hd1 hd2 Hq.out Hr.out).mono ?_
  rintro e w1 ⟨rfl, hb1⟩
  have A1 : Blk w1 (w.heap.size) #[.int .u64 (dg0 (n)), .int .u64 (dg1 (n)), .int .u64 (dg2 (n)), .int .u64 (dg3 (n))] 31 := Blk.below (by (repeat' (first | (with_reducible (first | assumption | exact Blk.alloc_new _ _ _ (by first | rfl | (simp; done) | omega) | apply Blk.drewN | apply Blk.drew | apply Blk.alloc_old | apply Blk.set_same | apply Blk.set_other)) | (show (_ : Nat) ≠ _; first | omega | (simp; done) | (simp; omega)) | ((simp only [List.setIfInBounds_toArray, List.set_cons_succ, List.set_cons_zero]); (with_reducible exact rfl)) | (with_reducible exact rfl) | (show (_ : Array Value) = _; exact rfl)))) hb1 (by first | (simp; done) | omega | (simp; omega))
  have R1 : Blk w1 (w.heap.size + 1) #[.int .u64 0, .int .i64 0] 116 := Blk.below (by (repeat' (first | (with_reducible (first | assumption | exact Blk.alloc_new _ _ _ (by first | rfl | (simp; done) | omega) | apply Blk.drewN | apply Blk.drew | apply Blk.alloc_old | apply Blk.set_same | apply Blk.set_other)) | (show (_ : Nat) ≠ _; first | omega | (simp; done) | (simp; omega)) | ((simp only [List.setIfInBounds_toArray, List.set_cons_succ, List.set_cons_zero]); (with_reducible exact rfl)) | (with_reducible exact rfl) | (show (_ : Array Value) = _; exact rfl)))) hb1 (by first | (simp; done) | omega | (simp; omega))
  have g1 : Below w.heap.size w w1 := by refine Below.trans ?_ (hb1.mono ?_) <;> (repeat' (first | (with_reducible (first | exact Below.refl _ _ | assumption | refine below_drewN ?_ _ | refine Below.drew ?_ | refine Below.alloc ?_ ?_ _ | refine Below.setCell ?_ ?_ _)) | go_size))
  have hz1 := hb1.size
  (try simp at hz1)
  clear hb1
  replace cA := A1.cell
  replace fA := A1.frozen
  replace zA := A1.size
  replace cR := R1.cell
  replace fR := R1.frozen
  replace zR := R1.size
  go_wp2_with fail
  go_region_with (first
      | (go_at_call 63; (with_reducible refine (rOf 1 _ (by omega) (by omega)).mono ?_); rintro e w' ⟨rfl, hb'⟩; have hbx : Below w.heap.size w w' := (by refine Below.trans ?_ (Below.mono hb' ?_) <;> (repeat' (first | (with_reducible (first | exact Below.refl _ _ | assumption | refine below_drewN ?_ _ | refine Below.drew ?_ | refine Below.alloc ?_ ?_ _ | refine Below.setCell ?_ ?_ _)) | go_size))); have hbs := hb'.size; (try simp at hbs); have hkA : Blk w' (w.heap.size) #[.int .u64 (dg0 (n)), .int .u64 (dg1 (n)), .int .u64 (dg2 (n)), .int .u64 (dg3 (n))] 31 := Blk.below (by (repeat' (first | (with_reducible (first | assumption | exact Blk.alloc_new _ _ _ (by first | rfl | (simp; done) | omega) | apply Blk.drewN | apply Blk.drew | apply Blk.alloc_old | apply Blk.set_same | apply Blk.set_other)) | (show (_ : Nat) ≠ _; first | omega | (simp; done) | (simp; omega)) | ((simp only [List.setIfInBounds_toArray, List.set_cons_succ, List.set_cons_zero]); (with_reducible exact rfl)) | (with_reducible exact rfl) | (show (_ : Array Value) = _; exact rfl)))) hb' (by first | (simp; done) | omega | (simp; omega)); have cA := hkA.cell; have fA := hkA.frozen; have zA := hkA.size; have hkR : Blk w' (w.heap.size + 1) #[.int .u64 0, .int .i64 0] 116 := Blk.below (by (repeat' (first | (with_reducible (first | assumption | exact Blk.alloc_new _ _ _ (by first | rfl | (simp; done) | omega) | apply Blk.drewN | apply Blk.drew | apply Blk.alloc_old | apply Blk.set_same | apply Blk.set_other)) | (show (_ : Nat) ≠ _; first | omega | (simp; done) | (simp; omega)) | ((simp only [List.setIfInBounds_toArray, List.set_cons_succ, List.set_cons_zero]); (with_reducible exact rfl)) | (with_reducible exact rfl) | (show (_ : Array Value) = _; exact rfl)))) hb' (by first | (simp; done) | omega | (simp; omega)); have cR := hkR.cell; have fR := hkR.frozen; have zR := hkR.size; have hkQ : Blk w' (w1.heap.size) #[.int .u64 (dg0 (q)), .int .u64 (dg1 (q)), .int .u64 (dg2 (q)), .int .u64 (dg3 (q))] 31 := Blk.below (by (repeat' (first | (with_reducible (first | assumption | exact Blk.alloc_new _ _ _ (by first | rfl | (simp; done) | omega) | apply Blk.drewN | apply Blk.drew | apply Blk.alloc_old | apply Blk.set_same | apply Blk.set_other)) | (show (_ : Nat) ≠ _; first | omega | (simp; done) | (simp; omega)) | ((simp only [List.setIfInBounds_toArray, List.set_cons_succ, List.set_cons_zero]); (with_reducible exact rfl)) | (with_reducible exact rfl) | (show (_ : Array Value) = _; exact rfl)))) hb' (by first | (simp; done) | omega | (simp; omega)); have cQ := hkQ.cell; have fQ := hkQ.frozen; have zQ := hkQ.size; clear hb')
      | (go_at_call 40; (with_reducible refine (rPlusC q 1 q1 _ h128 (by unfold In128; omega) Hq1.out hu).mono ?_); rintro e w' ⟨rfl, hb'⟩; have hbx : Below w.heap.size w w' := (by refine Below.trans ?_ (Below.mono hb' ?_) <;> (repeat' (first | (with_reducible (first | exact Below.refl _ _ | assumption | refine below_drewN ?_ _ | refine Below.drew ?_ | refine Below.alloc ?_ ?_ _ | refine Below.setCell ?_ ?_ _)) | go_size))); have hbs := hb'.size; (try simp at hbs); have hkA : Blk w' (w.heap.size) #[.int .u64 (dg0 (n)), .int .u64 (dg1 (n)), .int .u64 (dg2 (n)), .int .u64 (dg3 (n))] 31 := Blk.below (by (repeat' (first | (with_reducible (first | assumption | exact Blk.alloc_new _ _ _ (by first | rfl | (simp; done) | omega) | apply Blk.drewN | apply Blk.drew | apply Blk.alloc_old | apply Blk.set_same | apply Blk.set_other)) | (show (_ : Nat) ≠ _; first | omega | (simp; done) | (simp; omega)) | ((simp only [List.setIfInBounds_toArray, List.set_cons_succ, List.set_cons_zero]); (with_reducible exact rfl)) | (with_reducible exact rfl) | (show (_ : Array Value) = _; exact rfl)))) hb' (by first | (simp; done) | omega | (simp; omega)); have cA := hkA.cell; have fA := hkA.frozen; have zA := hkA.size; have hkR : Blk w' (w.heap.size + 1) #[.int .u64 0, .int .i64 0] 116 := Blk.below (by (repeat' (first | (with_reducible (first | assumption | exact Blk.alloc_new _ _ _ (by first | rfl | (simp; done) | omega) | apply Blk.drewN | apply Blk.drew | apply Blk.alloc_old | apply Blk.set_same | apply Blk.set_other)) | (show (_ : Nat) ≠ _; first | omega | (simp; done) | (simp; omega)) | ((simp only [List.setIfInBounds_toArray, List.set_cons_succ, List.set_cons_zero]); (with_reducible exact rfl)) | (with_reducible exact rfl) | (show (_ : Array Value) = _; exact rfl)))) hb' (by first | (simp; done) | omega | (simp; omega)); have cR := hkR.cell; have fR := hkR.frozen; have zR := hkR.size; have hkQ : Blk w' (w1.heap.size) #[.int .u64 (dg0 (q)), .int .u64 (dg1 (q)), .int .u64 (dg2 (q)), .int .u64 (dg3 (q))] 31 := Blk.below (by (repeat' (first | (with_reducible (first | assumption | exact Blk.alloc_new _ _ _ (by first | rfl | (simp; done) | omega) | apply Blk.drewN | apply Blk.drew | apply Blk.alloc_old | apply Blk.set_same | apply Blk.set_other)) | (show (_ : Nat) ≠ _; first | omega | (simp; done) | (simp; omega)) | ((simp only [List.setIfInBounds_toArray, List.set_cons_succ, List.set_cons_zero]); (with_reducible exact rfl)) | (with_reducible exact rfl) | (show (_ : Array Value) = _; exact rfl)))) hb' (by first | (simp; done) | omega | (simp; omega)); have cQ := hkQ.cell; have fQ := hkQ.frozen; have zQ := hkQ.size; clear hb'))
  all_goals
    go_wp2_with fail
    refine (rHi q1 _).mono ?_
    rintro e w4 ⟨rfl, hb4⟩
    have A4 : Blk w4 (w.heap.size) #[.int .u64 (dg0 (n)), .int .u64 (dg1 (n)), .int .u64 (dg2 (n)), .int .u64 (dg3 (n))] 31 := Blk.below (by (repeat' (first | (with_reducible (first | assumption | exact Blk.alloc_new _ _ _ (by first | rfl | (simp; done) | omega) | apply Blk.drewN | apply Blk.drew | apply Blk.alloc_old | apply Blk.set_same | apply Blk.set_other)) | (show (_ : Nat) ≠ _; first | omega | (simp; done) | (simp; omega)) | ((simp only [List.setIfInBounds_toArray, List.set_cons_succ, List.set_cons_zero]); (with_reducible exact rfl)) | (with_reducible exact rfl) | (show (_ : Array Value) = _; exact rfl)))) hb4 (by first | (simp; done) | omega | (simp; omega))
    have R4 : Blk w4 (w.heap.size + 1) #[.int .u64 0, .int .i64 0] 116 := Blk.below (by (repeat' (first | (with_reducible (first | assumption | exact Blk.alloc_new _ _ _ (by first | rfl | (simp; done) | omega) | apply Blk.drewN | apply Blk.drew | apply Blk.alloc_old | apply Blk.set_same | apply Blk.set_other)) | (show (_ : Nat) ≠ _; first | omega | (simp; done) | (simp; omega)) | ((simp only [List.setIfInBounds_toArray, List.set_cons_succ, List.set_cons_zero]); (with_reducible exact rfl)) | (with_reducible exact rfl) | (show (_ : Array Value) = _; exact rfl)))) hb4 (by first | (simp; done) | omega | (simp; omega))
    have Q4 : Blk w4 (w1.heap.size) #[.int .u64 (dg0 (q1)), .int .u64 (dg1 (q1)), .int .u64 (dg2 (q1)), .int .u64 (dg3 (q1))] 31 := Blk.below (by (repeat' (first | (with_reducible (first | assumption | exact Blk.alloc_new _ _ _ (by first | rfl | (simp; done) | omega) | apply Blk.drewN | apply Blk.drew | apply Blk.alloc_old | apply Blk.set_same | apply Blk.set_other)) | (show (_ : Nat) ≠ _; first | omega | (simp; done) | (simp; omega)) | ((simp only [List.setIfInBounds_toArray, List.set_cons_succ, List.set_cons_zero]); (with_reducible exact rfl)) | (with_reducible exact rfl) | (show (_ : Array Value) = _; exact rfl)))) hb4 (by first | (simp; done) | omega | (simp; omega))
    have g4 : Below w.heap.size w w4 := by refine Below.trans ?_ (hb4.mono ?_) <;> (repeat' (first | (with_reducible (first | exact Below.refl _ _ | assumption | refine below_drewN ?_ _ | refine Below.drew ?_ | refine Below.alloc ?_ ?_ _ | refine Below.setCell ?_ ?_ _)) | go_size))
    have hz4 := hb4.size
    (try simp at hz4)
    clear hb4
    replace cA := A4.cell
    replace fA := A4.frozen
    replace zA := A4.size
    replace cR := R4.cell
    replace fR := R4.frozen
    replace zR := R4.size
    replace cQ := Q4.cell
    replace fQ := Q4.frozen
    replace zQ := Q4.size
    go_wp2_with fail
    refine (rLo q1 _).mono ?_
    rintro e w5 ⟨rfl, hb5⟩
    have A5 : Blk w5 (w.heap.size) #[.int .u64 (dg0 (n)), .int .u64 (dg1 (n)), .int .u64 (dg2 (n)), .int .u64 (dg3 (n))] 31 := Blk.below (by (repeat' (first | (with_reducible (first | assumption | exact Blk.alloc_new _ _ _ (by first | rfl | (simp; done) | omega) | apply Blk.drewN | apply Blk.drew | apply Blk.alloc_old | apply Blk.set_same | apply Blk.set_other)) | (show (_ : Nat) ≠ _; first | omega | (simp; done) | (simp; omega)) | ((simp only [List.setIfInBounds_toArray, List.set_cons_succ, List.set_cons_zero]); (with_reducible exact rfl)) | (with_reducible exact rfl) | (show (_ : Array Value) = _; exact rfl)))) hb5 (by first | (simp; done) | omega | (simp; omega))
    have R5 : Blk w5 (w.heap.size + 1) #[.int .u64 0, .int .i64 0] 116 := Blk.below (by (repeat' (first | (with_reducible (first | assumption | exact Blk.alloc_new _ _ _ (by first | rfl | (simp; done) | omega) | apply Blk.drewN | apply Blk.drew | apply Blk.alloc_old | apply Blk.set_same | apply Blk.set_other)) | (show (_ : Nat) ≠ _; first | omega | (simp; done) | (simp; omega)) | ((simp only [List.setIfInBounds_toArray, List.set_cons_succ, List.set_cons_zero]); (with_reducible exact rfl)) | (with_reducible exact rfl) | (show (_ : Array Value) = _; exact rfl)))) hb5 (by first | (simp; done) | omega | (simp; omega))
    have Q5 : Blk w5 (w1.heap.size) #[.int .u64 (dg0 (q1)), .int .u64 (dg1 (q1)), .int .u64 (dg2 (q1)), .int .u64 (dg3 (q1))] 31 := Blk.below (by (repeat' (first | (with_reducible (first | assumption | exact Blk.alloc_new _ _ _ (by first | rfl | (simp; done) | omega) | apply Blk.drewN | apply Blk.drew | apply Blk.alloc_old | apply Blk.set_same | apply Blk.set_other)) | (show (_ : Nat) ≠ _; first | omega | (simp; done) | (simp; omega)) | ((simp only [List.setIfInBounds_toArray, List.set_cons_succ, List.set_cons_zero]); (with_reducible exact rfl)) | (with_reducible exact rfl) | (show (_ : Array Value) = _; exact rfl)))) hb5 (by first | (simp; done) | omega | (simp; omega))
    have g5 : Below w.heap.size w w5 := by refine Below.trans ?_ (hb5.mono ?_) <;> (repeat' (first | (with_reducible (first | exact Below.refl _ _ | assumption | refine below_drewN ?_ _ | refine Below.drew ?_ | refine Below.alloc ?_ ?_ _ | refine Below.setCell ?_ ?_ _)) | go_size))
    have hz5 := hb5.size
    (try simp at hz5)
    clear hb5
    replace cA := A5.cell
    replace fA := A5.frozen
    replace zA := A5.size
    replace cR := R5.cell
    replace fR := R5.frozen
    replace zR := R5.size
    replace cQ := Q5.cell
    replace fQ := Q5.frozen
    replace zQ := Q5.size
    go_wp2
    refine bp_forget (fun v => Below w.heap.size w v ∧ Blk v (w.heap.size + 1) #[.int .u64 (lo q1), .int .i64 (0)] 116) ⟨by (repeat' (first | (with_reducible (first | exact Below.refl _ _ | assumption | refine below_drewN ?_ _ | refine Below.drew ?_ | refine Below.alloc ?_ ?_ _ | refine Below.setCell ?_ ?_ _)) | go_size)), by (repeat' (first | (with_reducible (first | assumption | exact Blk.alloc_new _ _ _ (by first | rfl | (simp; done) | omega) | apply Blk.drewN | apply Blk.drew | apply Blk.alloc_old | apply Blk.set_same | apply Blk.set_other)) | (show (_ : Nat) ≠ _; first | omega | (simp; done) | (simp; omega)) | ((simp only [List.setIfInBounds_toArray, List.set_cons_succ, List.set_cons_zero]); (with_reducible exact rfl)) | (with_reducible exact rfl) | (show (_ : Array Value) = _; exact rfl)))⟩ ?_
    rintro v ⟨gv, Bv⟩
    have cv := Bv.cell
    refine bodyPost_ret (v := .agg #[.int .u64 (lo q1), .int .i64 (0)]) (by simp [results, Try.results72, go_sem, cv]) rfl ⟨rfl, gv⟩
theorem rceil_c (n d x y : Int) (w : World) (hn : In128 n) (hd : 0 ≤ d ∧ d ≤ 18446744073709551615) (h : CeR n d x y) :
    Calls Try.prog 72 #[nv n, .int .u64 d] w fun e w' => e = .returned (.agg #[.int .u64 x, .int .i64 y]) ∧ Below w.heap.size w w' := by
  rcases h with ⟨rfl, rfl, rfl⟩ | ⟨hd1, hh, rfl, rfl⟩ | ⟨hd1, hh, rfl, rfl⟩
  · exact rceil_0 n w
  · have h128 := (div128 hn hd1).1
    by_cases hz : n % d = 0
    · rw [show up n d = n / d by unfold up; rw [if_pos hz]] at hh
      exact rceil_zn n d (n / d) w hn hd1 hd.2 rfl hz hh
    · rw [show up n d = n / d + 1 by unfold up; rw [if_neg hz]] at hh
      exact rceil_pn n d (n / d) (n % d) (n / d + 1) w hn hd1 hd.2 rfl rfl (bne_iff_ne.2 hz) (by have := (div128 hn hd1).2; omega) rfl h128 (by rcases up128 hn hd1 with hu | hu; exact hu; exact absurd hu hz) hh
  · have h128 := (div128 hn hd1).1
    by_cases hz : n % d = 0
    · rw [show up n d = n / d by unfold up; rw [if_pos hz]] at hh ⊢
      exact rceil_zo n d (n / d) w hn hd1 hd.2 rfl hz hh
    · rw [show up n d = n / d + 1 by unfold up; rw [if_neg hz]] at hh ⊢
      exact rceil_po n d (n / d) (n % d) (n / d + 1) w hn hd1 hd.2 rfl rfl (bne_iff_ne.2 hz) (by have := (div128 hn hd1).2; omega) rfl h128 (by rcases up128 hn hd1 with hu | hu; exact hu; exact absurd hu hz) hh
end Go.Proofs.Ytaaoadbcgnedkaa
