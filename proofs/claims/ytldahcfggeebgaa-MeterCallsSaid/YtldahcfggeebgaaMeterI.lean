/-
  The statement MeterCalls: what any calls make of any meter, one behind the other, and tell, or why there is none. Conditions: none.
-/
import Derived.Test.YtldahcfggeebgaaMeterF
import Derived.Test.YtldahcfggeebgaaBlk
import Derived.Deep.CutRange
import Derived.Deep.DeepCutAuto
namespace Go.Proofs.Ytldahcfggeebgaa
open Go.ChangeShapes Go.WideShapes Go.ChangeAt Go.RowKit
set_option linter.unusedVariables false
set_option linter.unusedSimpArgs false
def CRel (wd s : Int) (len NW : Nat) (w : World) (i : Value) (wr : World) : Prop := ∃ (k : Nat) (a n o : Int), k ≤ len ∧ i = .int .i64 k ∧ Below w.heap.size w wr ∧ Blk wr w.heap.size #[.int .u64 (wd), .int .u64 (s), .int .u64 (a), .int .u64 (n), .int .u64 (o)] 77 ∧ Blk wr NW #[.int .u64 (wd), .int .i64 (s), .int .u64 (a), .int .u64 (n), .int .u64 (o)] 31 ∧ MIn a n o
set_option maxRecDepth 100000 in
set_option maxHeartbeats 40000000 in
theorem MeterCalls_main (wd s : Int) (a0 : Option Addr) (len cap : Nat) (w : World) (h1 : 1 ≤ wd ∧ wd ≤ 4294967296) (h2 : 0 ≤ s ∧ s ≤ 8) (hl : len ≤ 60) (hr : Rows_call47 w a0 len) :
    Calls Try.prog 3 #[.int .u64 wd, .int .i64 s, .slice a0 len cap] w fun e w' => e = .returned (.bool true) ∧ Below w.heap.size w w' := by
  have d1 : decide ((60 : Int) < (len : Int)) = false := decide_eq_false (by omega)
  have Hr := hide hr; clear hr
  go_enter Try.func3, Try.ntmps3
  go_wp2_with fail
  refine (meNew wd s _ h1 h2).mono ?_
  rintro e w1 ⟨rfl, b1, L1⟩
  have z1 := L1.size
  go_wp2_with fail
  refine (rMay wd s true _ (decide_eq_true (by omega))).mono ?_
  rintro e u2 ⟨rfl, rfl⟩
  go_wp2
  obtain ⟨NW, hNW⟩ : ∃ NW, w1.heap.size = NW := ⟨_, rfl⟩
  have hNw : w.heap.size < NW := by omega
  go_loopw [46] (fun i wr => CRel wd s len NW w i wr) (fun i _ => len - (intOf i).toNat)
  case atStart => exact ⟨0, 0, 0, 0, Nat.zero_le _, rfl, by (repeat' (first | (with_reducible (first | exact Below.refl _ _ | assumption | refine below_drewN ?_ _ | refine Below.drew ?_ | refine Below.alloc ?_ ?_ _ | refine Below.setCell ?_ ?_ _)) | go_size)), by (repeat' (first | (with_reducible (first | assumption | exact Blk.alloc_new _ _ _ (by first | rfl | (simp; done) | omega) | apply Blk.drewN | apply Blk.drew | apply Blk.alloc_old | apply Blk.set_same | apply Blk.set_other)) | (show (_ : Nat) ≠ _; first | omega | (simp; done) | (simp; omega)) | ((simp only [List.setIfInBounds_toArray, List.set_cons_succ, List.set_cons_zero]); (with_reducible exact rfl)) | (with_reducible exact rfl) | (show (_ : Array Value) = _; exact rfl))), by rw [← hNW]; (repeat' (first | (with_reducible (first | assumption | exact Blk.alloc_new _ _ _ (by first | rfl | (simp; done) | omega) | apply Blk.drewN | apply Blk.drew | apply Blk.alloc_old | apply Blk.set_same | apply Blk.set_other)) | (show (_ : Nat) ≠ _; first | omega | (simp; done) | (simp; omega)) | ((simp only [List.setIfInBounds_toArray, List.set_cons_succ, List.set_cons_zero]); (with_reducible exact rfl)) | (with_reducible exact rfl) | (show (_ : Array Value) = _; exact rfl))), by unfold MIn; omega⟩
  case round =>
    obtain ⟨k, a, n, o, hk, rfl, g0, L0, R0, hi⟩ := hrel
    have zL := L0.size; have cL := L0.cell; have fL := L0.frozen
    have zR := R0.size; have cR := R0.cell; have fR := R0.frozen
    have nwr : NW < wr.heap.size := zR
    have lwr : w.heap.size < wr.heap.size := zL
    have hl0 := g0.size
    have hi0 := hi
    unfold MIn at hi0
    rw [hNW]
    by_cases hlt : k < len
    · obtain ⟨B, off, rfl, hB, hc⟩ : ∃ b off, a0 = some ⟨b, off, none⟩ ∧ b < w.heap.size ∧ _ := by
        rcases Hr.out with h | h
        · omega
        · exact h
      obtain ⟨kd, at_, b, hkd, hat, hb, e0, e1, e2⟩ := hc k hlt
      clear hc
      have cc : ∀ o, wr.cell? ⟨B, o, none⟩ = w.cell? ⟨B, o, none⟩ := fun o => g0.cell (p := ⟨B, o, none⟩) hB
      rw [← cc] at e0 e1 e2
      clear cc
      obtain ⟨tw, hto⟩ : ∃ tw, at_ / wd = tw := ⟨_, rfl⟩
      by_cases hz : kd = 0
      · subst hz
        by_cases hbad : tw < n ∨ 4611686018427387904 < at_
        · skip
          go_wp2_with fail
          refine (meAvg_bad w.heap.size wd s a n o at_ tw _ (by (repeat' (first | (with_reducible (first | assumption | exact Blk.alloc_new _ _ _ (by first | rfl | (simp; done) | omega) | apply Blk.drewN | apply Blk.drew | apply Blk.alloc_old | apply Blk.set_same | apply Blk.set_other)) | (show (_ : Nat) ≠ _; first | omega | (simp; done) | (simp; omega)) | ((simp only [List.setIfInBounds_toArray, List.set_cons_succ, List.set_cons_zero]); (with_reducible exact rfl)) | (with_reducible exact rfl) | (show (_ : Array Value) = _; exact rfl)))) h1.1 hat hto hbad).mono ?_
          rintro e w3 ⟨rfl, hb3⟩
          have L3 : Blk w3 (w.heap.size) #[.int .u64 (wd), .int .u64 (s), .int .u64 (a), .int .u64 (n), .int .u64 (o)] 77 := Blk.below (by (repeat' (first | (with_reducible (first | assumption | exact Blk.alloc_new _ _ _ (by first | rfl | (simp; done) | omega) | apply Blk.drewN | apply Blk.drew | apply Blk.alloc_old | apply Blk.set_same | apply Blk.set_other)) | (show (_ : Nat) ≠ _; first | omega | (simp; done) | (simp; omega)) | ((simp only [List.setIfInBounds_toArray, List.set_cons_succ, List.set_cons_zero]); (with_reducible exact rfl)) | (with_reducible exact rfl) | (show (_ : Array Value) = _; exact rfl)))) hb3 (by first | (simp; done) | omega | (simp; omega))
          have R3 : Blk w3 (NW) #[.int .u64 (wd), .int .i64 (s), .int .u64 (a), .int .u64 (n), .int .u64 (o)] 31 := Blk.below (by (repeat' (first | (with_reducible (first | assumption | exact Blk.alloc_new _ _ _ (by first | rfl | (simp; done) | omega) | apply Blk.drewN | apply Blk.drew | apply Blk.alloc_old | apply Blk.set_same | apply Blk.set_other)) | (show (_ : Nat) ≠ _; first | omega | (simp; done) | (simp; omega)) | ((simp only [List.setIfInBounds_toArray, List.set_cons_succ, List.set_cons_zero]); (with_reducible exact rfl)) | (with_reducible exact rfl) | (show (_ : Array Value) = _; exact rfl)))) hb3 (by first | (simp; done) | omega | (simp; omega))
          have C3 : Blk w3 (wr.heap.size) #[.int .i64 0, .int .u64 at_, .int .i64 b] 33 := Blk.below (by (repeat' (first | (with_reducible (first | assumption | exact Blk.alloc_new _ _ _ (by first | rfl | (simp; done) | omega) | apply Blk.drewN | apply Blk.drew | apply Blk.alloc_old | apply Blk.set_same | apply Blk.set_other)) | (show (_ : Nat) ≠ _; first | omega | (simp; done) | (simp; omega)) | ((simp only [List.setIfInBounds_toArray, List.set_cons_succ, List.set_cons_zero]); (with_reducible exact rfl)) | (with_reducible exact rfl) | (show (_ : Array Value) = _; exact rfl)))) hb3 (by first | (simp; done) | omega | (simp; omega))
          have g3 : Below w.heap.size w w3 := by refine Below.trans ?_ (hb3.mono ?_) <;> (repeat' (first | (with_reducible (first | exact Below.refl _ _ | assumption | refine below_drewN ?_ _ | refine Below.drew ?_ | refine Below.alloc ?_ ?_ _ | refine Below.setCell ?_ ?_ _)) | go_size))
          have hz3 := hb3.size
          (try simp at hz3)
          clear hb3
          replace cL := L3.cell
          replace fL := L3.frozen
          replace zL := L3.size
          replace cR := R3.cell
          replace fR := R3.frozen
          replace zR := R3.size
          replace cC := C3.cell
          replace fC := C3.frozen
          replace zC := C3.size
          go_wp2_with fail
          refine (rmBad wd s a n o _ at_ tw true h1.1 hat hto (decide_eq_true hbad)).mono ?_
          rintro e w4 ⟨rfl, hb4⟩
          have L4 : Blk w4 (w.heap.size) #[.int .u64 (wd), .int .u64 (s), .int .u64 (a), .int .u64 (n), .int .u64 (o)] 77 := Blk.below (by (repeat' (first | (with_reducible (first | assumption | exact Blk.alloc_new _ _ _ (by first | rfl | (simp; done) | omega) | apply Blk.drewN | apply Blk.drew | apply Blk.alloc_old | apply Blk.set_same | apply Blk.set_other)) | (show (_ : Nat) ≠ _; first | omega | (simp; done) | (simp; omega)) | ((simp only [List.setIfInBounds_toArray, List.set_cons_succ, List.set_cons_zero]); (with_reducible exact rfl)) | (with_reducible exact rfl) | (show (_ : Array Value) = _; exact rfl)))) hb4 (by first | (simp; done) | omega | (simp; omega))
          have R4 : Blk w4 (NW) #[.int .u64 (wd), .int .i64 (s), .int .u64 (a), .int .u64 (n), .int .u64 (o)] 31 := Blk.below (by (repeat' (first | (with_reducible (first | assumption | exact Blk.alloc_new _ _ _ (by first | rfl | (simp; done) | omega) | apply Blk.drewN | apply Blk.drew | apply Blk.alloc_old | apply Blk.set_same | apply Blk.set_other)) | (show (_ : Nat) ≠ _; first | omega | (simp; done) | (simp; omega)) | ((simp only [List.setIfInBounds_toArray, List.set_cons_succ, List.set_cons_zero]); (with_reducible exact rfl)) | (with_reducible exact rfl) | (show (_ : Array Value) = _; exact rfl)))) hb4 (by first | (simp; done) | omega | (simp; omega))
          have C4 : Blk w4 (wr.heap.size) #[.int .i64 0, .int .u64 at_, .int .i64 b] 33 := Blk.below (by (repeat' (first | (with_reducible (first | assumption | exact Blk.alloc_new _ _ _ (by first | rfl | (simp; done) | omega) | apply Blk.drewN | apply Blk.drew | apply Blk.alloc_old | apply Blk.set_same | apply Blk.set_other)) | (show (_ : Nat) ≠ _; first | omega | (simp; done) | (simp; omega)) | ((simp only [List.setIfInBounds_toArray, List.set_cons_succ, List.set_cons_zero]); (with_reducible exact rfl)) | (with_reducible exact rfl) | (show (_ : Array Value) = _; exact rfl)))) hb4 (by first | (simp; done) | omega | (simp; omega))
          have g4 : Below w.heap.size w w4 := by refine Below.trans ?_ (hb4.mono ?_) <;> (repeat' (first | (with_reducible (first | exact Below.refl _ _ | assumption | refine below_drewN ?_ _ | refine Below.drew ?_ | refine Below.alloc ?_ ?_ _ | refine Below.setCell ?_ ?_ _)) | go_size))
          have hz4 := hb4.size
          (try simp at hz4)
          clear hb4
          replace cL := L4.cell
          replace fL := L4.frozen
          replace zL := L4.size
          replace cR := R4.cell
          replace fR := R4.frozen
          replace zR := R4.size
          replace cC := C4.cell
          replace fC := C4.frozen
          replace zC := C4.size
          go_wp2_with fail
          refine (meOpen w.heap.size wd s a n o _ (by (repeat' (first | (with_reducible (first | assumption | exact Blk.alloc_new _ _ _ (by first | rfl | (simp; done) | omega) | apply Blk.drewN | apply Blk.drew | apply Blk.alloc_old | apply Blk.set_same | apply Blk.set_other)) | (show (_ : Nat) ≠ _; first | omega | (simp; done) | (simp; omega)) | ((simp only [List.setIfInBounds_toArray, List.set_cons_succ, List.set_cons_zero]); (with_reducible exact rfl)) | (with_reducible exact rfl) | (show (_ : Array Value) = _; exact rfl))))).mono ?_
          rintro e w5 ⟨rfl, hb5⟩
          have L5 : Blk w5 (w.heap.size) #[.int .u64 (wd), .int .u64 (s), .int .u64 (a), .int .u64 (n), .int .u64 (o)] 77 := Blk.below (by (repeat' (first | (with_reducible (first | assumption | exact Blk.alloc_new _ _ _ (by first | rfl | (simp; done) | omega) | apply Blk.drewN | apply Blk.drew | apply Blk.alloc_old | apply Blk.set_same | apply Blk.set_other)) | (show (_ : Nat) ≠ _; first | omega | (simp; done) | (simp; omega)) | ((simp only [List.setIfInBounds_toArray, List.set_cons_succ, List.set_cons_zero]); (with_reducible exact rfl)) | (with_reducible exact rfl) | (show (_ : Array Value) = _; exact rfl)))) hb5 (by first | (simp; done) | omega | (simp; omega))
          have R5 : Blk w5 (NW) #[.int .u64 (wd), .int .i64 (s), .int .u64 (a), .int .u64 (n), .int .u64 (o)] 31 := Blk.below (by (repeat' (first | (with_reducible (first | assumption | exact Blk.alloc_new _ _ _ (by first | rfl | (simp; done) | omega) | apply Blk.drewN | apply Blk.drew | apply Blk.alloc_old | apply Blk.set_same | apply Blk.set_other)) | (show (_ : Nat) ≠ _; first | omega | (simp; done) | (simp; omega)) | ((simp only [List.setIfInBounds_toArray, List.set_cons_succ, List.set_cons_zero]); (with_reducible exact rfl)) | (with_reducible exact rfl) | (show (_ : Array Value) = _; exact rfl)))) hb5 (by first | (simp; done) | omega | (simp; omega))
          have g5 : Below w.heap.size w w5 := by refine Below.trans ?_ (hb5.mono ?_) <;> (repeat' (first | (with_reducible (first | exact Below.refl _ _ | assumption | refine below_drewN ?_ _ | refine Below.drew ?_ | refine Below.alloc ?_ ?_ _ | refine Below.setCell ?_ ?_ _)) | go_size))
          have hz5 := hb5.size
          (try simp at hz5)
          clear hb5
          replace cL := L5.cell
          replace fL := L5.frozen
          replace zL := L5.size
          replace cR := R5.cell
          replace fR := R5.frozen
          replace zR := R5.size
          go_wp2
          go_roundw
          case rel => exact ⟨k + 1, a, n, o, by omega, by go_num, by (repeat' (first | (with_reducible (first | exact Below.refl _ _ | assumption | refine below_drewN ?_ _ | refine Below.drew ?_ | refine Below.alloc ?_ ?_ _ | refine Below.setCell ?_ ?_ _)) | go_size)), by (repeat' (first | (with_reducible (first | assumption | exact Blk.alloc_new _ _ _ (by first | rfl | (simp; done) | omega) | apply Blk.drewN | apply Blk.drew | apply Blk.alloc_old | apply Blk.set_same | apply Blk.set_other)) | (show (_ : Nat) ≠ _; first | omega | (simp; done) | (simp; omega)) | ((simp only [List.setIfInBounds_toArray, List.set_cons_succ, List.set_cons_zero]); (with_reducible exact rfl)) | (with_reducible exact rfl) | (show (_ : Array Value) = _; exact rfl))), by (repeat' (first | (with_reducible (first | assumption | exact Blk.alloc_new _ _ _ (by first | rfl | (simp; done) | omega) | apply Blk.drewN | apply Blk.drew | apply Blk.alloc_old | apply Blk.set_same | apply Blk.set_other)) | (show (_ : Nat) ≠ _; first | omega | (simp; done) | (simp; omega)) | ((simp only [List.setIfInBounds_toArray, List.set_cons_succ, List.set_cons_zero]); (with_reducible exact rfl)) | (with_reducible exact rfl) | (show (_ : Array Value) = _; exact rfl))), hi⟩
          case measure => simp [intOf]; omega
        · have ht := to_rng ⟨hat.1, by omega⟩ h1.1 hto
          have hi' := hi.open_ (s := s) ht
          go_wp2_with fail
          refine (meAvg_ok w.heap.size wd s a n o at_ tw _ (by (repeat' (first | (with_reducible (first | assumption | exact Blk.alloc_new _ _ _ (by first | rfl | (simp; done) | omega) | apply Blk.drewN | apply Blk.drew | apply Blk.alloc_old | apply Blk.set_same | apply Blk.set_other)) | (show (_ : Nat) ≠ _; first | omega | (simp; done) | (simp; omega)) | ((simp only [List.setIfInBounds_toArray, List.set_cons_succ, List.set_cons_zero]); (with_reducible exact rfl)) | (with_reducible exact rfl) | (show (_ : Array Value) = _; exact rfl)))) h1.1 hat hto (by omega) (by omega) (by omega) h2 hi.1 hi.2.2 _ _ rfl rfl).mono ?_
          rintro e w3 ⟨rfl, L3, K3⟩
          have R3 : Blk w3 (NW) #[.int .u64 (wd), .int .i64 (s), .int .u64 (a), .int .u64 (n), .int .u64 (o)] 31 := Blk.kept (by (repeat' (first | (with_reducible (first | assumption | exact Blk.alloc_new _ _ _ (by first | rfl | (simp; done) | omega) | apply Blk.drewN | apply Blk.drew | apply Blk.alloc_old | apply Blk.set_same | apply Blk.set_other)) | (show (_ : Nat) ≠ _; first | omega | (simp; done) | (simp; omega)) | ((simp only [List.setIfInBounds_toArray, List.set_cons_succ, List.set_cons_zero]); (with_reducible exact rfl)) | (with_reducible exact rfl) | (show (_ : Array Value) = _; exact rfl)))) K3 (by first | omega | (simp; omega))
          have C3 : Blk w3 (wr.heap.size) #[.int .i64 0, .int .u64 at_, .int .i64 b] 33 := Blk.kept (by (repeat' (first | (with_reducible (first | assumption | exact Blk.alloc_new _ _ _ (by first | rfl | (simp; done) | omega) | apply Blk.drewN | apply Blk.drew | apply Blk.alloc_old | apply Blk.set_same | apply Blk.set_other)) | (show (_ : Nat) ≠ _; first | omega | (simp; done) | (simp; omega)) | ((simp only [List.setIfInBounds_toArray, List.set_cons_succ, List.set_cons_zero]); (with_reducible exact rfl)) | (with_reducible exact rfl) | (show (_ : Array Value) = _; exact rfl)))) K3 (by first | omega | (simp; omega))
          have g3 : Below w.heap.size w w3 := by refine Below.trans ?_ K3.1 <;> (repeat' (first | (with_reducible (first | exact Below.refl _ _ | assumption | refine below_drewN ?_ _ | refine Below.drew ?_ | refine Below.alloc ?_ ?_ _ | refine Below.setCell ?_ ?_ _)) | go_size))
          have hz3 := K3.1.size
          (try simp at hz3)
          clear K3
          replace cL := L3.cell; replace fL := L3.frozen; replace zL := L3.size
          replace cR := R3.cell; replace fR := R3.frozen; replace zR := R3.size
          replace cC := C3.cell; replace fC := C3.frozen; replace zC := C3.size
          go_wp2_with fail
          refine (rmBad wd s a n o _ at_ tw false h1.1 hat hto (decide_eq_false hbad)).mono ?_
          rintro e w4 ⟨rfl, hb4⟩
          have L4 : Blk w4 (w.heap.size) #[.int .u64 (wd), .int .u64 (s), .int .u64 ((mavg s a o n tw)), .int .u64 (tw), .int .u64 ((mopen o n tw))] 77 := Blk.below (by (repeat' (first | (with_reducible (first | assumption | exact Blk.alloc_new _ _ _ (by first | rfl | (simp; done) | omega) | apply Blk.drewN | apply Blk.drew | apply Blk.alloc_old | apply Blk.set_same | apply Blk.set_other)) | (show (_ : Nat) ≠ _; first | omega | (simp; done) | (simp; omega)) | ((simp only [List.setIfInBounds_toArray, List.set_cons_succ, List.set_cons_zero]); (with_reducible exact rfl)) | (with_reducible exact rfl) | (show (_ : Array Value) = _; exact rfl)))) hb4 (by first | (simp; done) | omega | (simp; omega))
          have R4 : Blk w4 (NW) #[.int .u64 (wd), .int .i64 (s), .int .u64 (a), .int .u64 (n), .int .u64 (o)] 31 := Blk.below (by (repeat' (first | (with_reducible (first | assumption | exact Blk.alloc_new _ _ _ (by first | rfl | (simp; done) | omega) | apply Blk.drewN | apply Blk.drew | apply Blk.alloc_old | apply Blk.set_same | apply Blk.set_other)) | (show (_ : Nat) ≠ _; first | omega | (simp; done) | (simp; omega)) | ((simp only [List.setIfInBounds_toArray, List.set_cons_succ, List.set_cons_zero]); (with_reducible exact rfl)) | (with_reducible exact rfl) | (show (_ : Array Value) = _; exact rfl)))) hb4 (by first | (simp; done) | omega | (simp; omega))
          have C4 : Blk w4 (wr.heap.size) #[.int .i64 0, .int .u64 at_, .int .i64 b] 33 := Blk.below (by (repeat' (first | (with_reducible (first | assumption | exact Blk.alloc_new _ _ _ (by first | rfl | (simp; done) | omega) | apply Blk.drewN | apply Blk.drew | apply Blk.alloc_old | apply Blk.set_same | apply Blk.set_other)) | (show (_ : Nat) ≠ _; first | omega | (simp; done) | (simp; omega)) | ((simp only [List.setIfInBounds_toArray, List.set_cons_succ, List.set_cons_zero]); (with_reducible exact rfl)) | (with_reducible exact rfl) | (show (_ : Array Value) = _; exact rfl)))) hb4 (by first | (simp; done) | omega | (simp; omega))
          have g4 : Below w.heap.size w w4 := by refine Below.trans ?_ (hb4.mono ?_) <;> (repeat' (first | (with_reducible (first | exact Below.refl _ _ | assumption | refine below_drewN ?_ _ | refine Below.drew ?_ | refine Below.alloc ?_ ?_ _ | refine Below.setCell ?_ ?_ _)) | go_size))
          have hz4 := hb4.size
          (try simp at hz4)
          clear hb4
          replace cL := L4.cell
          replace fL := L4.frozen
          replace zL := L4.size
          replace cR := R4.cell
          replace fR := R4.frozen
          replace zR := R4.size
          replace cC := C4.cell
          replace fC := C4.frozen
          replace zC := C4.size
          go_wp2_with fail
          refine (rmTurn wd s a n o _ at_ tw h1.1 ⟨hat.1, by omega⟩ hto (by omega) (by omega) h2 hi.1 hi.2.2).mono ?_
          rintro e w5 ⟨rfl, hb5⟩
          have L5 : Blk w5 (w.heap.size) #[.int .u64 (wd), .int .u64 (s), .int .u64 ((mavg s a o n tw)), .int .u64 (tw), .int .u64 ((mopen o n tw))] 77 := Blk.below (by (repeat' (first | (with_reducible (first | assumption | exact Blk.alloc_new _ _ _ (by first | rfl | (simp; done) | omega) | apply Blk.drewN | apply Blk.drew | apply Blk.alloc_old | apply Blk.set_same | apply Blk.set_other)) | (show (_ : Nat) ≠ _; first | omega | (simp; done) | (simp; omega)) | ((simp only [List.setIfInBounds_toArray, List.set_cons_succ, List.set_cons_zero]); (with_reducible exact rfl)) | (with_reducible exact rfl) | (show (_ : Array Value) = _; exact rfl)))) hb5 (by first | (simp; done) | omega | (simp; omega))
          have R5 : Blk w5 (NW) #[.int .u64 (wd), .int .i64 (s), .int .u64 (a), .int .u64 (n), .int .u64 (o)] 31 := Blk.below (by (repeat' (first | (with_reducible (first | assumption | exact Blk.alloc_new _ _ _ (by first | rfl | (simp; done) | omega) | apply Blk.drewN | apply Blk.drew | apply Blk.alloc_old | apply Blk.set_same | apply Blk.set_other)) | (show (_ : Nat) ≠ _; first | omega | (simp; done) | (simp; omega)) | ((simp only [List.setIfInBounds_toArray, List.set_cons_succ, List.set_cons_zero]); (with_reducible exact rfl)) | (with_reducible exact rfl) | (show (_ : Array Value) = _; exact rfl)))) hb5 (by first | (simp; done) | omega | (simp; omega))
          have C5 : Blk w5 (wr.heap.size) #[.int .i64 0, .int .u64 at_, .int .i64 b] 33 := Blk.below (by (repeat' (first | (with_reducible (first | assumption | exact Blk.alloc_new _ _ _ (by first | rfl | (simp; done) | omega) | apply Blk.drewN | apply Blk.drew | apply Blk.alloc_old | apply Blk.set_same | apply Blk.set_other)) | (show (_ : Nat) ≠ _; first | omega | (simp; done) | (simp; omega)) | ((simp only [List.setIfInBounds_toArray, List.set_cons_succ, List.set_cons_zero]); (with_reducible exact rfl)) | (with_reducible exact rfl) | (show (_ : Array Value) = _; exact rfl)))) hb5 (by first | (simp; done) | omega | (simp; omega))
          have g5 : Below w.heap.size w w5 := by refine Below.trans ?_ (hb5.mono ?_) <;> (repeat' (first | (with_reducible (first | exact Below.refl _ _ | assumption | refine below_drewN ?_ _ | refine Below.drew ?_ | refine Below.alloc ?_ ?_ _ | refine Below.setCell ?_ ?_ _)) | go_size))
          have hz5 := hb5.size
          (try simp at hz5)
          clear hb5
          replace cL := L5.cell
          replace fL := L5.frozen
          replace zL := L5.size
          replace cR := R5.cell
          replace fR := R5.frozen
          replace zR := R5.size
          replace cC := C5.cell
          replace fC := C5.frozen
          replace zC := C5.size
          go_wp2_with fail
          refine (meOpen w.heap.size wd s (mavg s a o n tw) tw (mopen o n tw) _ (by (repeat' (first | (with_reducible (first | assumption | exact Blk.alloc_new _ _ _ (by first | rfl | (simp; done) | omega) | apply Blk.drewN | apply Blk.drew | apply Blk.alloc_old | apply Blk.set_same | apply Blk.set_other)) | (show (_ : Nat) ≠ _; first | omega | (simp; done) | (simp; omega)) | ((simp only [List.setIfInBounds_toArray, List.set_cons_succ, List.set_cons_zero]); (with_reducible exact rfl)) | (with_reducible exact rfl) | (show (_ : Array Value) = _; exact rfl))))).mono ?_
          rintro e w6 ⟨rfl, hb6⟩
          have L6 : Blk w6 (w.heap.size) #[.int .u64 (wd), .int .u64 (s), .int .u64 ((mavg s a o n tw)), .int .u64 (tw), .int .u64 ((mopen o n tw))] 77 := Blk.below (by (repeat' (first | (with_reducible (first | assumption | exact Blk.alloc_new _ _ _ (by first | rfl | (simp; done) | omega) | apply Blk.drewN | apply Blk.drew | apply Blk.alloc_old | apply Blk.set_same | apply Blk.set_other)) | (show (_ : Nat) ≠ _; first | omega | (simp; done) | (simp; omega)) | ((simp only [List.setIfInBounds_toArray, List.set_cons_succ, List.set_cons_zero]); (with_reducible exact rfl)) | (with_reducible exact rfl) | (show (_ : Array Value) = _; exact rfl)))) hb6 (by first | (simp; done) | omega | (simp; omega))
          have R6 : Blk w6 (NW) #[.int .u64 (wd), .int .i64 (s), .int .u64 ((mavg s a o n tw)), .int .u64 (tw), .int .u64 ((mopen o n tw))] 31 := Blk.below (by (repeat' (first | (with_reducible (first | assumption | exact Blk.alloc_new _ _ _ (by first | rfl | (simp; done) | omega) | apply Blk.drewN | apply Blk.drew | apply Blk.alloc_old | apply Blk.set_same | apply Blk.set_other)) | (show (_ : Nat) ≠ _; first | omega | (simp; done) | (simp; omega)) | ((simp only [List.setIfInBounds_toArray, List.set_cons_succ, List.set_cons_zero]); (with_reducible exact rfl)) | (with_reducible exact rfl) | (show (_ : Array Value) = _; exact rfl)))) hb6 (by first | (simp; done) | omega | (simp; omega))
          have g6 : Below w.heap.size w w6 := by refine Below.trans ?_ (hb6.mono ?_) <;> (repeat' (first | (with_reducible (first | exact Below.refl _ _ | assumption | refine below_drewN ?_ _ | refine Below.drew ?_ | refine Below.alloc ?_ ?_ _ | refine Below.setCell ?_ ?_ _)) | go_size))
          have hz6 := hb6.size
          (try simp at hz6)
          clear hb6
          replace cL := L6.cell
          replace fL := L6.frozen
          replace zL := L6.size
          replace cR := R6.cell
          replace fR := R6.frozen
          replace zR := R6.size
          go_wp2
          go_roundw
          case rel => exact ⟨k + 1, (mavg s a o n tw), tw, (mopen o n tw), by omega, by go_num, by (repeat' (first | (with_reducible (first | exact Below.refl _ _ | assumption | refine below_drewN ?_ _ | refine Below.drew ?_ | refine Below.alloc ?_ ?_ _ | refine Below.setCell ?_ ?_ _)) | go_size)), by (repeat' (first | (with_reducible (first | assumption | exact Blk.alloc_new _ _ _ (by first | rfl | (simp; done) | omega) | apply Blk.drewN | apply Blk.drew | apply Blk.alloc_old | apply Blk.set_same | apply Blk.set_other)) | (show (_ : Nat) ≠ _; first | omega | (simp; done) | (simp; omega)) | ((simp only [List.setIfInBounds_toArray, List.set_cons_succ, List.set_cons_zero]); (with_reducible exact rfl)) | (with_reducible exact rfl) | (show (_ : Array Value) = _; exact rfl))), by (repeat' (first | (with_reducible (first | assumption | exact Blk.alloc_new _ _ _ (by first | rfl | (simp; done) | omega) | apply Blk.drewN | apply Blk.drew | apply Blk.alloc_old | apply Blk.set_same | apply Blk.set_other)) | (show (_ : Nat) ≠ _; first | omega | (simp; done) | (simp; omega)) | ((simp only [List.setIfInBounds_toArray, List.set_cons_succ, List.set_cons_zero]); (with_reducible exact rfl)) | (with_reducible exact rfl) | (show (_ : Array Value) = _; exact rfl))), hi'⟩
          case measure => simp [intOf]; omega
      · have dz : (kd == 0) = false := beq_eq_false_iff_ne.2 hz
        by_cases hb0 : b < 0
        · skip
          go_wp2_with fail
          refine (rmAdd_len wd s a n o at_ 0 b _ hb0).mono ?_
          rintro e w3 ⟨rfl, hb3⟩
          have L3 : Blk w3 (w.heap.size) #[.int .u64 (wd), .int .u64 (s), .int .u64 (a), .int .u64 (n), .int .u64 (o)] 77 := Blk.below (by (repeat' (first | (with_reducible (first | assumption | exact Blk.alloc_new _ _ _ (by first | rfl | (simp; done) | omega) | apply Blk.drewN | apply Blk.drew | apply Blk.alloc_old | apply Blk.set_same | apply Blk.set_other)) | (show (_ : Nat) ≠ _; first | omega | (simp; done) | (simp; omega)) | ((simp only [List.setIfInBounds_toArray, List.set_cons_succ, List.set_cons_zero]); (with_reducible exact rfl)) | (with_reducible exact rfl) | (show (_ : Array Value) = _; exact rfl)))) hb3 (by first | (simp; done) | omega | (simp; omega))
          have R3 : Blk w3 (NW) #[.int .u64 (wd), .int .i64 (s), .int .u64 (a), .int .u64 (n), .int .u64 (o)] 31 := Blk.below (by (repeat' (first | (with_reducible (first | assumption | exact Blk.alloc_new _ _ _ (by first | rfl | (simp; done) | omega) | apply Blk.drewN | apply Blk.drew | apply Blk.alloc_old | apply Blk.set_same | apply Blk.set_other)) | (show (_ : Nat) ≠ _; first | omega | (simp; done) | (simp; omega)) | ((simp only [List.setIfInBounds_toArray, List.set_cons_succ, List.set_cons_zero]); (with_reducible exact rfl)) | (with_reducible exact rfl) | (show (_ : Array Value) = _; exact rfl)))) hb3 (by first | (simp; done) | omega | (simp; omega))
          have C3 : Blk w3 (wr.heap.size) #[.int .i64 kd, .int .u64 at_, .int .i64 b] 33 := Blk.below (by (repeat' (first | (with_reducible (first | assumption | exact Blk.alloc_new _ _ _ (by first | rfl | (simp; done) | omega) | apply Blk.drewN | apply Blk.drew | apply Blk.alloc_old | apply Blk.set_same | apply Blk.set_other)) | (show (_ : Nat) ≠ _; first | omega | (simp; done) | (simp; omega)) | ((simp only [List.setIfInBounds_toArray, List.set_cons_succ, List.set_cons_zero]); (with_reducible exact rfl)) | (with_reducible exact rfl) | (show (_ : Array Value) = _; exact rfl)))) hb3 (by first | (simp; done) | omega | (simp; omega))
          have g3 : Below w.heap.size w w3 := by refine Below.trans ?_ (hb3.mono ?_) <;> (repeat' (first | (with_reducible (first | exact Below.refl _ _ | assumption | refine below_drewN ?_ _ | refine Below.drew ?_ | refine Below.alloc ?_ ?_ _ | refine Below.setCell ?_ ?_ _)) | go_size))
          have hz3 := hb3.size
          (try simp at hz3)
          clear hb3
          replace cL := L3.cell
          replace fL := L3.frozen
          replace zL := L3.size
          replace cR := R3.cell
          replace fR := R3.frozen
          replace zR := R3.size
          replace cC := C3.cell
          replace fC := C3.frozen
          replace zC := C3.size
          go_upto_region 19 with (fail)
          refine wp_forget (fun v => Below w.heap.size w v ∧ Blk v (w.heap.size) #[.int .u64 (wd), .int .u64 (s), .int .u64 (a), .int .u64 (n), .int .u64 (o)] 77 ∧ Blk v (NW) #[.int .u64 (wd), .int .i64 (s), .int .u64 (a), .int .u64 (n), .int .u64 (o)] 31 ∧ Blk v (wr.heap.size) #[.int .i64 kd, .int .u64 at_, .int .i64 b] 33 ∧ Blk v (w3.heap.size) #[.int .u64 (wd), .int .i64 (s), .int .u64 (a), .int .u64 (n), .int .u64 (o)] 31) ⟨by (repeat' (first | (with_reducible (first | exact Below.refl _ _ | assumption | refine below_drewN ?_ _ | refine Below.drew ?_ | refine Below.alloc ?_ ?_ _ | refine Below.setCell ?_ ?_ _)) | go_size)), by (repeat' (first | (with_reducible (first | assumption | exact Blk.alloc_new _ _ _ (by first | rfl | (simp; done) | omega) | apply Blk.drewN | apply Blk.drew | apply Blk.alloc_old | apply Blk.set_same | apply Blk.set_other)) | (show (_ : Nat) ≠ _; first | omega | (simp; done) | (simp; omega)) | ((simp only [List.setIfInBounds_toArray, List.set_cons_succ, List.set_cons_zero]); (with_reducible exact rfl)) | (with_reducible exact rfl) | (show (_ : Array Value) = _; exact rfl))), by (repeat' (first | (with_reducible (first | assumption | exact Blk.alloc_new _ _ _ (by first | rfl | (simp; done) | omega) | apply Blk.drewN | apply Blk.drew | apply Blk.alloc_old | apply Blk.set_same | apply Blk.set_other)) | (show (_ : Nat) ≠ _; first | omega | (simp; done) | (simp; omega)) | ((simp only [List.setIfInBounds_toArray, List.set_cons_succ, List.set_cons_zero]); (with_reducible exact rfl)) | (with_reducible exact rfl) | (show (_ : Array Value) = _; exact rfl))), by (repeat' (first | (with_reducible (first | assumption | exact Blk.alloc_new _ _ _ (by first | rfl | (simp; done) | omega) | apply Blk.drewN | apply Blk.drew | apply Blk.alloc_old | apply Blk.set_same | apply Blk.set_other)) | (show (_ : Nat) ≠ _; first | omega | (simp; done) | (simp; omega)) | ((simp only [List.setIfInBounds_toArray, List.set_cons_succ, List.set_cons_zero]); (with_reducible exact rfl)) | (with_reducible exact rfl) | (show (_ : Array Value) = _; exact rfl))), by (repeat' (first | (with_reducible (first | assumption | exact Blk.alloc_new _ _ _ (by first | rfl | (simp; done) | omega) | apply Blk.drewN | apply Blk.drew | apply Blk.alloc_old | apply Blk.set_same | apply Blk.set_other)) | (show (_ : Nat) ≠ _; first | omega | (simp; done) | (simp; omega)) | ((simp only [List.setIfInBounds_toArray, List.set_cons_succ, List.set_cons_zero]); (with_reducible exact rfl)) | (with_reducible exact rfl) | (show (_ : Array Value) = _; exact rfl)))⟩ ?_
          rintro w37 ⟨g37, L37, R37, C37, X37⟩
          have hz37 := g37.size
          replace cL := L37.cell
          replace fL := L37.frozen
          replace zL := L37.size
          replace cR := R37.cell
          replace fR := R37.frozen
          replace zR := R37.size
          replace cC := C37.cell
          replace fC := C37.frozen
          replace zC := C37.size
          have cX := X37.cell
          have fX := X37.frozen
          have zX := X37.size
          go_wp2_with (first | (refine load_blk 31 (.tmp 14) (w3.heap.size) #[.int .u64 (wd), .int .i64 (s), .int .u64 (a), .int .u64 (n), .int .u64 (o)] 31 _ (by rfl) (by rfl) (by rfl) (by (repeat' (first | (with_reducible (first | assumption | exact Blk.alloc_new _ _ _ (by first | rfl | (simp; done) | omega) | apply Blk.drewN | apply Blk.drew | apply Blk.alloc_old | apply Blk.set_same | apply Blk.set_other)) | (show (_ : Nat) ≠ _; first | omega | (simp; done) | (simp; omega)) | ((simp only [List.setIfInBounds_toArray, List.set_cons_succ, List.set_cons_zero]); (with_reducible exact rfl)) | (with_reducible exact rfl) | (show (_ : Array Value) = _; exact rfl)))) Try.underlying31 rfl (by kernel_rfl) ?_) | (refine store_blk 31 (.tmp 9) (.tmp 91) NW #[.int .u64 (wd), .int .i64 (s), .int .u64 (a), .int .u64 (n), .int .u64 (o)] #[.int .u64 (wd), .int .i64 (s), .int .u64 (a), .int .u64 (n), .int .u64 (o)] 31 (by rfl) (by rfl) (by rfl) (by rfl) (by (repeat' (first | (with_reducible (first | assumption | exact Blk.alloc_new _ _ _ (by first | rfl | (simp; done) | omega) | apply Blk.drewN | apply Blk.drew | apply Blk.alloc_old | apply Blk.set_same | apply Blk.set_other)) | (show (_ : Nat) ≠ _; first | omega | (simp; done) | (simp; omega)) | ((simp only [List.setIfInBounds_toArray, List.set_cons_succ, List.set_cons_zero]); (with_reducible exact rfl)) | (with_reducible exact rfl) | (show (_ : Array Value) = _; exact rfl)))) rfl (by kernel_rfl) (by simp [Value.oneCell']) ?_; intro w5 R5 kB5 kO5 hs5; have g5 : Below w.heap.size w w5 := kB5 _ _ (by first | (simp; done) | omega | (simp; omega)) (by (repeat' (first | (with_reducible (first | exact Below.refl _ _ | assumption | refine below_drewN ?_ _ | refine Below.drew ?_ | refine Below.alloc ?_ ?_ _ | refine Below.setCell ?_ ?_ _)) | go_size))); have L5 := kO5 (w.heap.size) #[.int .u64 (wd), .int .u64 (s), .int .u64 (a), .int .u64 (n), .int .u64 (o)] 77 (by first | (simp; done) | omega | (simp; omega)) (by (repeat' (first | (with_reducible (first | assumption | exact Blk.alloc_new _ _ _ (by first | rfl | (simp; done) | omega) | apply Blk.drewN | apply Blk.drew | apply Blk.alloc_old | apply Blk.set_same | apply Blk.set_other)) | (show (_ : Nat) ≠ _; first | omega | (simp; done) | (simp; omega)) | ((simp only [List.setIfInBounds_toArray, List.set_cons_succ, List.set_cons_zero]); (with_reducible exact rfl)) | (with_reducible exact rfl) | (show (_ : Array Value) = _; exact rfl)))); replace cL := L5.cell; replace fL := L5.frozen; replace zL := L5.size; have C5 := kO5 (wr.heap.size) #[.int .i64 kd, .int .u64 at_, .int .i64 b] 33 (by first | (simp; done) | omega | (simp; omega)) (by (repeat' (first | (with_reducible (first | assumption | exact Blk.alloc_new _ _ _ (by first | rfl | (simp; done) | omega) | apply Blk.drewN | apply Blk.drew | apply Blk.alloc_old | apply Blk.set_same | apply Blk.set_other)) | (show (_ : Nat) ≠ _; first | omega | (simp; done) | (simp; omega)) | ((simp only [List.setIfInBounds_toArray, List.set_cons_succ, List.set_cons_zero]); (with_reducible exact rfl)) | (with_reducible exact rfl) | (show (_ : Array Value) = _; exact rfl)))); replace cC := C5.cell; replace fC := C5.frozen; replace zC := C5.size; replace cR := R5.cell; replace fR := R5.frozen; replace zR := R5.size; have hz5 : w37.heap.size ≤ w5.heap.size := by omega; clear kB5 kO5 cX fX zX X37 L37 R37 C37))
          refine (meAdd_len w.heap.size at_ b _ hb0).mono ?_
          rintro e w6 ⟨rfl, hb6⟩
          have L6 : Blk w6 (w.heap.size) #[.int .u64 (wd), .int .u64 (s), .int .u64 (a), .int .u64 (n), .int .u64 (o)] 77 := Blk.below (by (repeat' (first | (with_reducible (first | assumption | exact Blk.alloc_new _ _ _ (by first | rfl | (simp; done) | omega) | apply Blk.drewN | apply Blk.drew | apply Blk.alloc_old | apply Blk.set_same | apply Blk.set_other)) | (show (_ : Nat) ≠ _; first | omega | (simp; done) | (simp; omega)) | ((simp only [List.setIfInBounds_toArray, List.set_cons_succ, List.set_cons_zero]); (with_reducible exact rfl)) | (with_reducible exact rfl) | (show (_ : Array Value) = _; exact rfl)))) hb6 (by first | (simp; done) | omega | (simp; omega))
          have R6 : Blk w6 (NW) #[.int .u64 (wd), .int .i64 (s), .int .u64 (a), .int .u64 (n), .int .u64 (o)] 31 := Blk.below (by (repeat' (first | (with_reducible (first | assumption | exact Blk.alloc_new _ _ _ (by first | rfl | (simp; done) | omega) | apply Blk.drewN | apply Blk.drew | apply Blk.alloc_old | apply Blk.set_same | apply Blk.set_other)) | (show (_ : Nat) ≠ _; first | omega | (simp; done) | (simp; omega)) | ((simp only [List.setIfInBounds_toArray, List.set_cons_succ, List.set_cons_zero]); (with_reducible exact rfl)) | (with_reducible exact rfl) | (show (_ : Array Value) = _; exact rfl)))) hb6 (by first | (simp; done) | omega | (simp; omega))
          have g6 : Below w.heap.size w w6 := by refine Below.trans ?_ (hb6.mono ?_) <;> (repeat' (first | (with_reducible (first | exact Below.refl _ _ | assumption | refine below_drewN ?_ _ | refine Below.drew ?_ | refine Below.alloc ?_ ?_ _ | refine Below.setCell ?_ ?_ _)) | go_size))
          have hz6 := hb6.size
          (try simp at hz6)
          clear hb6
          replace cL := L6.cell
          replace fL := L6.frozen
          replace zL := L6.size
          replace cR := R6.cell
          replace fR := R6.frozen
          replace zR := R6.size
          go_wp2_with fail
          refine (meOpen w.heap.size wd s a n o _ (by (repeat' (first | (with_reducible (first | assumption | exact Blk.alloc_new _ _ _ (by first | rfl | (simp; done) | omega) | apply Blk.drewN | apply Blk.drew | apply Blk.alloc_old | apply Blk.set_same | apply Blk.set_other)) | (show (_ : Nat) ≠ _; first | omega | (simp; done) | (simp; omega)) | ((simp only [List.setIfInBounds_toArray, List.set_cons_succ, List.set_cons_zero]); (with_reducible exact rfl)) | (with_reducible exact rfl) | (show (_ : Array Value) = _; exact rfl))))).mono ?_
          rintro e w8 ⟨rfl, hb8⟩
          have L8 : Blk w8 (w.heap.size) #[.int .u64 (wd), .int .u64 (s), .int .u64 (a), .int .u64 (n), .int .u64 (o)] 77 := Blk.below (by (repeat' (first | (with_reducible (first | assumption | exact Blk.alloc_new _ _ _ (by first | rfl | (simp; done) | omega) | apply Blk.drewN | apply Blk.drew | apply Blk.alloc_old | apply Blk.set_same | apply Blk.set_other)) | (show (_ : Nat) ≠ _; first | omega | (simp; done) | (simp; omega)) | ((simp only [List.setIfInBounds_toArray, List.set_cons_succ, List.set_cons_zero]); (with_reducible exact rfl)) | (with_reducible exact rfl) | (show (_ : Array Value) = _; exact rfl)))) hb8 (by first | (simp; done) | omega | (simp; omega))
          have R8 : Blk w8 (NW) #[.int .u64 (wd), .int .i64 (s), .int .u64 (a), .int .u64 (n), .int .u64 (o)] 31 := Blk.below (by (repeat' (first | (with_reducible (first | assumption | exact Blk.alloc_new _ _ _ (by first | rfl | (simp; done) | omega) | apply Blk.drewN | apply Blk.drew | apply Blk.alloc_old | apply Blk.set_same | apply Blk.set_other)) | (show (_ : Nat) ≠ _; first | omega | (simp; done) | (simp; omega)) | ((simp only [List.setIfInBounds_toArray, List.set_cons_succ, List.set_cons_zero]); (with_reducible exact rfl)) | (with_reducible exact rfl) | (show (_ : Array Value) = _; exact rfl)))) hb8 (by first | (simp; done) | omega | (simp; omega))
          have g8 : Below w.heap.size w w8 := by refine Below.trans ?_ (hb8.mono ?_) <;> (repeat' (first | (with_reducible (first | exact Below.refl _ _ | assumption | refine below_drewN ?_ _ | refine Below.drew ?_ | refine Below.alloc ?_ ?_ _ | refine Below.setCell ?_ ?_ _)) | go_size))
          have hz8 := hb8.size
          (try simp at hz8)
          clear hb8
          replace cL := L8.cell
          replace fL := L8.frozen
          replace zL := L8.size
          replace cR := R8.cell
          replace fR := R8.frozen
          replace zR := R8.size
          go_wp2
          go_roundw
          case rel => exact ⟨k + 1, a, n, o, by omega, by go_num, by (repeat' (first | (with_reducible (first | exact Below.refl _ _ | assumption | refine below_drewN ?_ _ | refine Below.drew ?_ | refine Below.alloc ?_ ?_ _ | refine Below.setCell ?_ ?_ _)) | go_size)), by (repeat' (first | (with_reducible (first | assumption | exact Blk.alloc_new _ _ _ (by first | rfl | (simp; done) | omega) | apply Blk.drewN | apply Blk.drew | apply Blk.alloc_old | apply Blk.set_same | apply Blk.set_other)) | (show (_ : Nat) ≠ _; first | omega | (simp; done) | (simp; omega)) | ((simp only [List.setIfInBounds_toArray, List.set_cons_succ, List.set_cons_zero]); (with_reducible exact rfl)) | (with_reducible exact rfl) | (show (_ : Array Value) = _; exact rfl))), by (repeat' (first | (with_reducible (first | assumption | exact Blk.alloc_new _ _ _ (by first | rfl | (simp; done) | omega) | apply Blk.drewN | apply Blk.drew | apply Blk.alloc_old | apply Blk.set_same | apply Blk.set_other)) | (show (_ : Nat) ≠ _; first | omega | (simp; done) | (simp; omega)) | ((simp only [List.setIfInBounds_toArray, List.set_cons_succ, List.set_cons_zero]); (with_reducible exact rfl)) | (with_reducible exact rfl) | (show (_ : Array Value) = _; exact rfl))), hi⟩
          case measure => simp [intOf]; omega
        by_cases hbad : tw < n ∨ 4611686018427387904 < at_
        · skip
          go_wp2_with fail
          refine (rmAdd_bad wd s a n o at_ tw b _ h1.1 hat hto (by omega) hbad).mono ?_
          rintro e w3 ⟨rfl, hb3⟩
          have L3 : Blk w3 (w.heap.size) #[.int .u64 (wd), .int .u64 (s), .int .u64 (a), .int .u64 (n), .int .u64 (o)] 77 := Blk.below (by (repeat' (first | (with_reducible (first | assumption | exact Blk.alloc_new _ _ _ (by first | rfl | (simp; done) | omega) | apply Blk.drewN | apply Blk.drew | apply Blk.alloc_old | apply Blk.set_same | apply Blk.set_other)) | (show (_ : Nat) ≠ _; first | omega | (simp; done) | (simp; omega)) | ((simp only [List.setIfInBounds_toArray, List.set_cons_succ, List.set_cons_zero]); (with_reducible exact rfl)) | (with_reducible exact rfl) | (show (_ : Array Value) = _; exact rfl)))) hb3 (by first | (simp; done) | omega | (simp; omega))
          have R3 : Blk w3 (NW) #[.int .u64 (wd), .int .i64 (s), .int .u64 (a), .int .u64 (n), .int .u64 (o)] 31 := Blk.below (by (repeat' (first | (with_reducible (first | assumption | exact Blk.alloc_new _ _ _ (by first | rfl | (simp; done) | omega) | apply Blk.drewN | apply Blk.drew | apply Blk.alloc_old | apply Blk.set_same | apply Blk.set_other)) | (show (_ : Nat) ≠ _; first | omega | (simp; done) | (simp; omega)) | ((simp only [List.setIfInBounds_toArray, List.set_cons_succ, List.set_cons_zero]); (with_reducible exact rfl)) | (with_reducible exact rfl) | (show (_ : Array Value) = _; exact rfl)))) hb3 (by first | (simp; done) | omega | (simp; omega))
          have C3 : Blk w3 (wr.heap.size) #[.int .i64 kd, .int .u64 at_, .int .i64 b] 33 := Blk.below (by (repeat' (first | (with_reducible (first | assumption | exact Blk.alloc_new _ _ _ (by first | rfl | (simp; done) | omega) | apply Blk.drewN | apply Blk.drew | apply Blk.alloc_old | apply Blk.set_same | apply Blk.set_other)) | (show (_ : Nat) ≠ _; first | omega | (simp; done) | (simp; omega)) | ((simp only [List.setIfInBounds_toArray, List.set_cons_succ, List.set_cons_zero]); (with_reducible exact rfl)) | (with_reducible exact rfl) | (show (_ : Array Value) = _; exact rfl)))) hb3 (by first | (simp; done) | omega | (simp; omega))
          have g3 : Below w.heap.size w w3 := by refine Below.trans ?_ (hb3.mono ?_) <;> (repeat' (first | (with_reducible (first | exact Below.refl _ _ | assumption | refine below_drewN ?_ _ | refine Below.drew ?_ | refine Below.alloc ?_ ?_ _ | refine Below.setCell ?_ ?_ _)) | go_size))
          have hz3 := hb3.size
          (try simp at hz3)
          clear hb3
          replace cL := L3.cell
          replace fL := L3.frozen
          replace zL := L3.size
          replace cR := R3.cell
          replace fR := R3.frozen
          replace zR := R3.size
          replace cC := C3.cell
          replace fC := C3.frozen
          replace zC := C3.size
          go_upto_region 19 with (fail)
          refine wp_forget (fun v => Below w.heap.size w v ∧ Blk v (w.heap.size) #[.int .u64 (wd), .int .u64 (s), .int .u64 (a), .int .u64 (n), .int .u64 (o)] 77 ∧ Blk v (NW) #[.int .u64 (wd), .int .i64 (s), .int .u64 (a), .int .u64 (n), .int .u64 (o)] 31 ∧ Blk v (wr.heap.size) #[.int .i64 kd, .int .u64 at_, .int .i64 b] 33 ∧ Blk v (w3.heap.size) #[.int .u64 (wd), .int .i64 (s), .int .u64 (a), .int .u64 (n), .int .u64 (o)] 31) ⟨by (repeat' (first | (with_reducible (first | exact Below.refl _ _ | assumption | refine below_drewN ?_ _ | refine Below.drew ?_ | refine Below.alloc ?_ ?_ _ | refine Below.setCell ?_ ?_ _)) | go_size)), by (repeat' (first | (with_reducible (first | assumption | exact Blk.alloc_new _ _ _ (by first | rfl | (simp; done) | omega) | apply Blk.drewN | apply Blk.drew | apply Blk.alloc_old | apply Blk.set_same | apply Blk.set_other)) | (show (_ : Nat) ≠ _; first | omega | (simp; done) | (simp; omega)) | ((simp only [List.setIfInBounds_toArray, List.set_cons_succ, List.set_cons_zero]); (with_reducible exact rfl)) | (with_reducible exact rfl) | (show (_ : Array Value) = _; exact rfl))), by (repeat' (first | (with_reducible (first | assumption | exact Blk.alloc_new _ _ _ (by first | rfl | (simp; done) | omega) | apply Blk.drewN | apply Blk.drew | apply Blk.alloc_old | apply Blk.set_same | apply Blk.set_other)) | (show (_ : Nat) ≠ _; first | omega | (simp; done) | (simp; omega)) | ((simp only [List.setIfInBounds_toArray, List.set_cons_succ, List.set_cons_zero]); (with_reducible exact rfl)) | (with_reducible exact rfl) | (show (_ : Array Value) = _; exact rfl))), by (repeat' (first | (with_reducible (first | assumption | exact Blk.alloc_new _ _ _ (by first | rfl | (simp; done) | omega) | apply Blk.drewN | apply Blk.drew | apply Blk.alloc_old | apply Blk.set_same | apply Blk.set_other)) | (show (_ : Nat) ≠ _; first | omega | (simp; done) | (simp; omega)) | ((simp only [List.setIfInBounds_toArray, List.set_cons_succ, List.set_cons_zero]); (with_reducible exact rfl)) | (with_reducible exact rfl) | (show (_ : Array Value) = _; exact rfl))), by (repeat' (first | (with_reducible (first | assumption | exact Blk.alloc_new _ _ _ (by first | rfl | (simp; done) | omega) | apply Blk.drewN | apply Blk.drew | apply Blk.alloc_old | apply Blk.set_same | apply Blk.set_other)) | (show (_ : Nat) ≠ _; first | omega | (simp; done) | (simp; omega)) | ((simp only [List.setIfInBounds_toArray, List.set_cons_succ, List.set_cons_zero]); (with_reducible exact rfl)) | (with_reducible exact rfl) | (show (_ : Array Value) = _; exact rfl)))⟩ ?_
          rintro w37 ⟨g37, L37, R37, C37, X37⟩
          have hz37 := g37.size
          replace cL := L37.cell
          replace fL := L37.frozen
          replace zL := L37.size
          replace cR := R37.cell
          replace fR := R37.frozen
          replace zR := R37.size
          replace cC := C37.cell
          replace fC := C37.frozen
          replace zC := C37.size
          have cX := X37.cell
          have fX := X37.frozen
          have zX := X37.size
          go_wp2_with (first | (refine load_blk 31 (.tmp 14) (w3.heap.size) #[.int .u64 (wd), .int .i64 (s), .int .u64 (a), .int .u64 (n), .int .u64 (o)] 31 _ (by rfl) (by rfl) (by rfl) (by (repeat' (first | (with_reducible (first | assumption | exact Blk.alloc_new _ _ _ (by first | rfl | (simp; done) | omega) | apply Blk.drewN | apply Blk.drew | apply Blk.alloc_old | apply Blk.set_same | apply Blk.set_other)) | (show (_ : Nat) ≠ _; first | omega | (simp; done) | (simp; omega)) | ((simp only [List.setIfInBounds_toArray, List.set_cons_succ, List.set_cons_zero]); (with_reducible exact rfl)) | (with_reducible exact rfl) | (show (_ : Array Value) = _; exact rfl)))) Try.underlying31 rfl (by kernel_rfl) ?_) | (refine store_blk 31 (.tmp 9) (.tmp 91) NW #[.int .u64 (wd), .int .i64 (s), .int .u64 (a), .int .u64 (n), .int .u64 (o)] #[.int .u64 (wd), .int .i64 (s), .int .u64 (a), .int .u64 (n), .int .u64 (o)] 31 (by rfl) (by rfl) (by rfl) (by rfl) (by (repeat' (first | (with_reducible (first | assumption | exact Blk.alloc_new _ _ _ (by first | rfl | (simp; done) | omega) | apply Blk.drewN | apply Blk.drew | apply Blk.alloc_old | apply Blk.set_same | apply Blk.set_other)) | (show (_ : Nat) ≠ _; first | omega | (simp; done) | (simp; omega)) | ((simp only [List.setIfInBounds_toArray, List.set_cons_succ, List.set_cons_zero]); (with_reducible exact rfl)) | (with_reducible exact rfl) | (show (_ : Array Value) = _; exact rfl)))) rfl (by kernel_rfl) (by simp [Value.oneCell']) ?_; intro w5 R5 kB5 kO5 hs5; have g5 : Below w.heap.size w w5 := kB5 _ _ (by first | (simp; done) | omega | (simp; omega)) (by (repeat' (first | (with_reducible (first | exact Below.refl _ _ | assumption | refine below_drewN ?_ _ | refine Below.drew ?_ | refine Below.alloc ?_ ?_ _ | refine Below.setCell ?_ ?_ _)) | go_size))); have L5 := kO5 (w.heap.size) #[.int .u64 (wd), .int .u64 (s), .int .u64 (a), .int .u64 (n), .int .u64 (o)] 77 (by first | (simp; done) | omega | (simp; omega)) (by (repeat' (first | (with_reducible (first | assumption | exact Blk.alloc_new _ _ _ (by first | rfl | (simp; done) | omega) | apply Blk.drewN | apply Blk.drew | apply Blk.alloc_old | apply Blk.set_same | apply Blk.set_other)) | (show (_ : Nat) ≠ _; first | omega | (simp; done) | (simp; omega)) | ((simp only [List.setIfInBounds_toArray, List.set_cons_succ, List.set_cons_zero]); (with_reducible exact rfl)) | (with_reducible exact rfl) | (show (_ : Array Value) = _; exact rfl)))); replace cL := L5.cell; replace fL := L5.frozen; replace zL := L5.size; have C5 := kO5 (wr.heap.size) #[.int .i64 kd, .int .u64 at_, .int .i64 b] 33 (by first | (simp; done) | omega | (simp; omega)) (by (repeat' (first | (with_reducible (first | assumption | exact Blk.alloc_new _ _ _ (by first | rfl | (simp; done) | omega) | apply Blk.drewN | apply Blk.drew | apply Blk.alloc_old | apply Blk.set_same | apply Blk.set_other)) | (show (_ : Nat) ≠ _; first | omega | (simp; done) | (simp; omega)) | ((simp only [List.setIfInBounds_toArray, List.set_cons_succ, List.set_cons_zero]); (with_reducible exact rfl)) | (with_reducible exact rfl) | (show (_ : Array Value) = _; exact rfl)))); replace cC := C5.cell; replace fC := C5.frozen; replace zC := C5.size; replace cR := R5.cell; replace fR := R5.frozen; replace zR := R5.size; have hz5 : w37.heap.size ≤ w5.heap.size := by omega; clear kB5 kO5 cX fX zX X37 L37 R37 C37))
          refine (meAdd_bad w.heap.size wd s a n o at_ tw _ (by (repeat' (first | (with_reducible (first | assumption | exact Blk.alloc_new _ _ _ (by first | rfl | (simp; done) | omega) | apply Blk.drewN | apply Blk.drew | apply Blk.alloc_old | apply Blk.set_same | apply Blk.set_other)) | (show (_ : Nat) ≠ _; first | omega | (simp; done) | (simp; omega)) | ((simp only [List.setIfInBounds_toArray, List.set_cons_succ, List.set_cons_zero]); (with_reducible exact rfl)) | (with_reducible exact rfl) | (show (_ : Array Value) = _; exact rfl)))) h1.1 hat hto b (by omega) hbad).mono ?_
          rintro e w6 ⟨rfl, hb6⟩
          have L6 : Blk w6 (w.heap.size) #[.int .u64 (wd), .int .u64 (s), .int .u64 (a), .int .u64 (n), .int .u64 (o)] 77 := Blk.below (by (repeat' (first | (with_reducible (first | assumption | exact Blk.alloc_new _ _ _ (by first | rfl | (simp; done) | omega) | apply Blk.drewN | apply Blk.drew | apply Blk.alloc_old | apply Blk.set_same | apply Blk.set_other)) | (show (_ : Nat) ≠ _; first | omega | (simp; done) | (simp; omega)) | ((simp only [List.setIfInBounds_toArray, List.set_cons_succ, List.set_cons_zero]); (with_reducible exact rfl)) | (with_reducible exact rfl) | (show (_ : Array Value) = _; exact rfl)))) hb6 (by first | (simp; done) | omega | (simp; omega))
          have R6 : Blk w6 (NW) #[.int .u64 (wd), .int .i64 (s), .int .u64 (a), .int .u64 (n), .int .u64 (o)] 31 := Blk.below (by (repeat' (first | (with_reducible (first | assumption | exact Blk.alloc_new _ _ _ (by first | rfl | (simp; done) | omega) | apply Blk.drewN | apply Blk.drew | apply Blk.alloc_old | apply Blk.set_same | apply Blk.set_other)) | (show (_ : Nat) ≠ _; first | omega | (simp; done) | (simp; omega)) | ((simp only [List.setIfInBounds_toArray, List.set_cons_succ, List.set_cons_zero]); (with_reducible exact rfl)) | (with_reducible exact rfl) | (show (_ : Array Value) = _; exact rfl)))) hb6 (by first | (simp; done) | omega | (simp; omega))
          have g6 : Below w.heap.size w w6 := by refine Below.trans ?_ (hb6.mono ?_) <;> (repeat' (first | (with_reducible (first | exact Below.refl _ _ | assumption | refine below_drewN ?_ _ | refine Below.drew ?_ | refine Below.alloc ?_ ?_ _ | refine Below.setCell ?_ ?_ _)) | go_size))
          have hz6 := hb6.size
          (try simp at hz6)
          clear hb6
          replace cL := L6.cell
          replace fL := L6.frozen
          replace zL := L6.size
          replace cR := R6.cell
          replace fR := R6.frozen
          replace zR := R6.size
          go_wp2_with fail
          refine (meOpen w.heap.size wd s a n o _ (by (repeat' (first | (with_reducible (first | assumption | exact Blk.alloc_new _ _ _ (by first | rfl | (simp; done) | omega) | apply Blk.drewN | apply Blk.drew | apply Blk.alloc_old | apply Blk.set_same | apply Blk.set_other)) | (show (_ : Nat) ≠ _; first | omega | (simp; done) | (simp; omega)) | ((simp only [List.setIfInBounds_toArray, List.set_cons_succ, List.set_cons_zero]); (with_reducible exact rfl)) | (with_reducible exact rfl) | (show (_ : Array Value) = _; exact rfl))))).mono ?_
          rintro e w8 ⟨rfl, hb8⟩
          have L8 : Blk w8 (w.heap.size) #[.int .u64 (wd), .int .u64 (s), .int .u64 (a), .int .u64 (n), .int .u64 (o)] 77 := Blk.below (by (repeat' (first | (with_reducible (first | assumption | exact Blk.alloc_new _ _ _ (by first | rfl | (simp; done) | omega) | apply Blk.drewN | apply Blk.drew | apply Blk.alloc_old | apply Blk.set_same | apply Blk.set_other)) | (show (_ : Nat) ≠ _; first | omega | (simp; done) | (simp; omega)) | ((simp only [List.setIfInBounds_toArray, List.set_cons_succ, List.set_cons_zero]); (with_reducible exact rfl)) | (with_reducible exact rfl) | (show (_ : Array Value) = _; exact rfl)))) hb8 (by first | (simp; done) | omega | (simp; omega))
          have R8 : Blk w8 (NW) #[.int .u64 (wd), .int .i64 (s), .int .u64 (a), .int .u64 (n), .int .u64 (o)] 31 := Blk.below (by (repeat' (first | (with_reducible (first | assumption | exact Blk.alloc_new _ _ _ (by first | rfl | (simp; done) | omega) | apply Blk.drewN | apply Blk.drew | apply Blk.alloc_old | apply Blk.set_same | apply Blk.set_other)) | (show (_ : Nat) ≠ _; first | omega | (simp; done) | (simp; omega)) | ((simp only [List.setIfInBounds_toArray, List.set_cons_succ, List.set_cons_zero]); (with_reducible exact rfl)) | (with_reducible exact rfl) | (show (_ : Array Value) = _; exact rfl)))) hb8 (by first | (simp; done) | omega | (simp; omega))
          have g8 : Below w.heap.size w w8 := by refine Below.trans ?_ (hb8.mono ?_) <;> (repeat' (first | (with_reducible (first | exact Below.refl _ _ | assumption | refine below_drewN ?_ _ | refine Below.drew ?_ | refine Below.alloc ?_ ?_ _ | refine Below.setCell ?_ ?_ _)) | go_size))
          have hz8 := hb8.size
          (try simp at hz8)
          clear hb8
          replace cL := L8.cell
          replace fL := L8.frozen
          replace zL := L8.size
          replace cR := R8.cell
          replace fR := R8.frozen
          replace zR := R8.size
          go_wp2
          go_roundw
          case rel => exact ⟨k + 1, a, n, o, by omega, by go_num, by (repeat' (first | (with_reducible (first | exact Below.refl _ _ | assumption | refine below_drewN ?_ _ | refine Below.drew ?_ | refine Below.alloc ?_ ?_ _ | refine Below.setCell ?_ ?_ _)) | go_size)), by (repeat' (first | (with_reducible (first | assumption | exact Blk.alloc_new _ _ _ (by first | rfl | (simp; done) | omega) | apply Blk.drewN | apply Blk.drew | apply Blk.alloc_old | apply Blk.set_same | apply Blk.set_other)) | (show (_ : Nat) ≠ _; first | omega | (simp; done) | (simp; omega)) | ((simp only [List.setIfInBounds_toArray, List.set_cons_succ, List.set_cons_zero]); (with_reducible exact rfl)) | (with_reducible exact rfl) | (show (_ : Array Value) = _; exact rfl))), by (repeat' (first | (with_reducible (first | assumption | exact Blk.alloc_new _ _ _ (by first | rfl | (simp; done) | omega) | apply Blk.drewN | apply Blk.drew | apply Blk.alloc_old | apply Blk.set_same | apply Blk.set_other)) | (show (_ : Nat) ≠ _; first | omega | (simp; done) | (simp; omega)) | ((simp only [List.setIfInBounds_toArray, List.set_cons_succ, List.set_cons_zero]); (with_reducible exact rfl)) | (with_reducible exact rfl) | (show (_ : Array Value) = _; exact rfl))), hi⟩
          case measure => simp [intOf]; omega
        · have ht := to_rng ⟨hat.1, by omega⟩ h1.1 hto
          have hi' := hi.turn (s := s) ht b (by omega)
          obtain ⟨q, hq⟩ : ∃ q, min (mopen o n tw + b) 1099511627776 = q := ⟨_, rfl⟩
          rw [hq] at hi'
          go_wp2_with fail
          refine (rmAdd_ok wd s a n o at_ tw b _ h1.1 hat hto (by omega) (by omega) (by omega) h2 hi.1 hi.2.2 _ q ⟨by omega, hb.2⟩ rfl hq).mono ?_
          rintro e w3 ⟨rfl, hb3⟩
          have L3 : Blk w3 (w.heap.size) #[.int .u64 (wd), .int .u64 (s), .int .u64 (a), .int .u64 (n), .int .u64 (o)] 77 := Blk.below (by (repeat' (first | (with_reducible (first | assumption | exact Blk.alloc_new _ _ _ (by first | rfl | (simp; done) | omega) | apply Blk.drewN | apply Blk.drew | apply Blk.alloc_old | apply Blk.set_same | apply Blk.set_other)) | (show (_ : Nat) ≠ _; first | omega | (simp; done) | (simp; omega)) | ((simp only [List.setIfInBounds_toArray, List.set_cons_succ, List.set_cons_zero]); (with_reducible exact rfl)) | (with_reducible exact rfl) | (show (_ : Array Value) = _; exact rfl)))) hb3 (by first | (simp; done) | omega | (simp; omega))
          have R3 : Blk w3 (NW) #[.int .u64 (wd), .int .i64 (s), .int .u64 (a), .int .u64 (n), .int .u64 (o)] 31 := Blk.below (by (repeat' (first | (with_reducible (first | assumption | exact Blk.alloc_new _ _ _ (by first | rfl | (simp; done) | omega) | apply Blk.drewN | apply Blk.drew | apply Blk.alloc_old | apply Blk.set_same | apply Blk.set_other)) | (show (_ : Nat) ≠ _; first | omega | (simp; done) | (simp; omega)) | ((simp only [List.setIfInBounds_toArray, List.set_cons_succ, List.set_cons_zero]); (with_reducible exact rfl)) | (with_reducible exact rfl) | (show (_ : Array Value) = _; exact rfl)))) hb3 (by first | (simp; done) | omega | (simp; omega))
          have C3 : Blk w3 (wr.heap.size) #[.int .i64 kd, .int .u64 at_, .int .i64 b] 33 := Blk.below (by (repeat' (first | (with_reducible (first | assumption | exact Blk.alloc_new _ _ _ (by first | rfl | (simp; done) | omega) | apply Blk.drewN | apply Blk.drew | apply Blk.alloc_old | apply Blk.set_same | apply Blk.set_other)) | (show (_ : Nat) ≠ _; first | omega | (simp; done) | (simp; omega)) | ((simp only [List.setIfInBounds_toArray, List.set_cons_succ, List.set_cons_zero]); (with_reducible exact rfl)) | (with_reducible exact rfl) | (show (_ : Array Value) = _; exact rfl)))) hb3 (by first | (simp; done) | omega | (simp; omega))
          have g3 : Below w.heap.size w w3 := by refine Below.trans ?_ (hb3.mono ?_) <;> (repeat' (first | (with_reducible (first | exact Below.refl _ _ | assumption | refine below_drewN ?_ _ | refine Below.drew ?_ | refine Below.alloc ?_ ?_ _ | refine Below.setCell ?_ ?_ _)) | go_size))
          have hz3 := hb3.size
          (try simp at hz3)
          clear hb3
          replace cL := L3.cell
          replace fL := L3.frozen
          replace zL := L3.size
          replace cR := R3.cell
          replace fR := R3.frozen
          replace zR := R3.size
          replace cC := C3.cell
          replace fC := C3.frozen
          replace zC := C3.size
          go_upto_region 19 with (fail)
          refine wp_forget (fun v => Below w.heap.size w v ∧ Blk v (w.heap.size) #[.int .u64 (wd), .int .u64 (s), .int .u64 (a), .int .u64 (n), .int .u64 (o)] 77 ∧ Blk v (NW) #[.int .u64 (wd), .int .i64 (s), .int .u64 (a), .int .u64 (n), .int .u64 (o)] 31 ∧ Blk v (wr.heap.size) #[.int .i64 kd, .int .u64 at_, .int .i64 b] 33 ∧ Blk v (w3.heap.size) #[.int .u64 (wd), .int .i64 (s), .int .u64 ((mavg s a o n tw)), .int .u64 (tw), .int .u64 (q)] 31) ⟨by (repeat' (first | (with_reducible (first | exact Below.refl _ _ | assumption | refine below_drewN ?_ _ | refine Below.drew ?_ | refine Below.alloc ?_ ?_ _ | refine Below.setCell ?_ ?_ _)) | go_size)), by (repeat' (first | (with_reducible (first | assumption | exact Blk.alloc_new _ _ _ (by first | rfl | (simp; done) | omega) | apply Blk.drewN | apply Blk.drew | apply Blk.alloc_old | apply Blk.set_same | apply Blk.set_other)) | (show (_ : Nat) ≠ _; first | omega | (simp; done) | (simp; omega)) | ((simp only [List.setIfInBounds_toArray, List.set_cons_succ, List.set_cons_zero]); (with_reducible exact rfl)) | (with_reducible exact rfl) | (show (_ : Array Value) = _; exact rfl))), by (repeat' (first | (with_reducible (first | assumption | exact Blk.alloc_new _ _ _ (by first | rfl | (simp; done) | omega) | apply Blk.drewN | apply Blk.drew | apply Blk.alloc_old | apply Blk.set_same | apply Blk.set_other)) | (show (_ : Nat) ≠ _; first | omega | (simp; done) | (simp; omega)) | ((simp only [List.setIfInBounds_toArray, List.set_cons_succ, List.set_cons_zero]); (with_reducible exact rfl)) | (with_reducible exact rfl) | (show (_ : Array Value) = _; exact rfl))), by (repeat' (first | (with_reducible (first | assumption | exact Blk.alloc_new _ _ _ (by first | rfl | (simp; done) | omega) | apply Blk.drewN | apply Blk.drew | apply Blk.alloc_old | apply Blk.set_same | apply Blk.set_other)) | (show (_ : Nat) ≠ _; first | omega | (simp; done) | (simp; omega)) | ((simp only [List.setIfInBounds_toArray, List.set_cons_succ, List.set_cons_zero]); (with_reducible exact rfl)) | (with_reducible exact rfl) | (show (_ : Array Value) = _; exact rfl))), by (repeat' (first | (with_reducible (first | assumption | exact Blk.alloc_new _ _ _ (by first | rfl | (simp; done) | omega) | apply Blk.drewN | apply Blk.drew | apply Blk.alloc_old | apply Blk.set_same | apply Blk.set_other)) | (show (_ : Nat) ≠ _; first | omega | (simp; done) | (simp; omega)) | ((simp only [List.setIfInBounds_toArray, List.set_cons_succ, List.set_cons_zero]); (with_reducible exact rfl)) | (with_reducible exact rfl) | (show (_ : Array Value) = _; exact rfl)))⟩ ?_
          rintro w37 ⟨g37, L37, R37, C37, X37⟩
          have hz37 := g37.size
          replace cL := L37.cell
          replace fL := L37.frozen
          replace zL := L37.size
          replace cR := R37.cell
          replace fR := R37.frozen
          replace zR := R37.size
          replace cC := C37.cell
          replace fC := C37.frozen
          replace zC := C37.size
          have cX := X37.cell
          have fX := X37.frozen
          have zX := X37.size
          go_wp2_with (first | (refine load_blk 31 (.tmp 14) (w3.heap.size) #[.int .u64 (wd), .int .i64 (s), .int .u64 ((mavg s a o n tw)), .int .u64 (tw), .int .u64 (q)] 31 _ (by rfl) (by rfl) (by rfl) (by (repeat' (first | (with_reducible (first | assumption | exact Blk.alloc_new _ _ _ (by first | rfl | (simp; done) | omega) | apply Blk.drewN | apply Blk.drew | apply Blk.alloc_old | apply Blk.set_same | apply Blk.set_other)) | (show (_ : Nat) ≠ _; first | omega | (simp; done) | (simp; omega)) | ((simp only [List.setIfInBounds_toArray, List.set_cons_succ, List.set_cons_zero]); (with_reducible exact rfl)) | (with_reducible exact rfl) | (show (_ : Array Value) = _; exact rfl)))) Try.underlying31 rfl (by kernel_rfl) ?_) | (refine store_blk 31 (.tmp 9) (.tmp 91) NW #[.int .u64 (wd), .int .i64 (s), .int .u64 (a), .int .u64 (n), .int .u64 (o)] #[.int .u64 (wd), .int .i64 (s), .int .u64 ((mavg s a o n tw)), .int .u64 (tw), .int .u64 (q)] 31 (by rfl) (by rfl) (by rfl) (by rfl) (by (repeat' (first | (with_reducible (first | assumption | exact Blk.alloc_new _ _ _ (by first | rfl | (simp; done) | omega) | apply Blk.drewN | apply Blk.drew | apply Blk.alloc_old | apply Blk.set_same | apply Blk.set_other)) | (show (_ : Nat) ≠ _; first | omega | (simp; done) | (simp; omega)) | ((simp only [List.setIfInBounds_toArray, List.set_cons_succ, List.set_cons_zero]); (with_reducible exact rfl)) | (with_reducible exact rfl) | (show (_ : Array Value) = _; exact rfl)))) rfl (by kernel_rfl) (by simp [Value.oneCell']) ?_; intro w5 R5 kB5 kO5 hs5; have g5 : Below w.heap.size w w5 := kB5 _ _ (by first | (simp; done) | omega | (simp; omega)) (by (repeat' (first | (with_reducible (first | exact Below.refl _ _ | assumption | refine below_drewN ?_ _ | refine Below.drew ?_ | refine Below.alloc ?_ ?_ _ | refine Below.setCell ?_ ?_ _)) | go_size))); have L5 := kO5 (w.heap.size) #[.int .u64 (wd), .int .u64 (s), .int .u64 (a), .int .u64 (n), .int .u64 (o)] 77 (by first | (simp; done) | omega | (simp; omega)) (by (repeat' (first | (with_reducible (first | assumption | exact Blk.alloc_new _ _ _ (by first | rfl | (simp; done) | omega) | apply Blk.drewN | apply Blk.drew | apply Blk.alloc_old | apply Blk.set_same | apply Blk.set_other)) | (show (_ : Nat) ≠ _; first | omega | (simp; done) | (simp; omega)) | ((simp only [List.setIfInBounds_toArray, List.set_cons_succ, List.set_cons_zero]); (with_reducible exact rfl)) | (with_reducible exact rfl) | (show (_ : Array Value) = _; exact rfl)))); replace cL := L5.cell; replace fL := L5.frozen; replace zL := L5.size; have C5 := kO5 (wr.heap.size) #[.int .i64 kd, .int .u64 at_, .int .i64 b] 33 (by first | (simp; done) | omega | (simp; omega)) (by (repeat' (first | (with_reducible (first | assumption | exact Blk.alloc_new _ _ _ (by first | rfl | (simp; done) | omega) | apply Blk.drewN | apply Blk.drew | apply Blk.alloc_old | apply Blk.set_same | apply Blk.set_other)) | (show (_ : Nat) ≠ _; first | omega | (simp; done) | (simp; omega)) | ((simp only [List.setIfInBounds_toArray, List.set_cons_succ, List.set_cons_zero]); (with_reducible exact rfl)) | (with_reducible exact rfl) | (show (_ : Array Value) = _; exact rfl)))); replace cC := C5.cell; replace fC := C5.frozen; replace zC := C5.size; replace cR := R5.cell; replace fR := R5.frozen; replace zR := R5.size; have hz5 : w37.heap.size ≤ w5.heap.size := by omega; clear kB5 kO5 cX fX zX X37 L37 R37 C37))
          refine (meAdd_ok w.heap.size wd s a n o at_ tw _ (by (repeat' (first | (with_reducible (first | assumption | exact Blk.alloc_new _ _ _ (by first | rfl | (simp; done) | omega) | apply Blk.drewN | apply Blk.drew | apply Blk.alloc_old | apply Blk.set_same | apply Blk.set_other)) | (show (_ : Nat) ≠ _; first | omega | (simp; done) | (simp; omega)) | ((simp only [List.setIfInBounds_toArray, List.set_cons_succ, List.set_cons_zero]); (with_reducible exact rfl)) | (with_reducible exact rfl) | (show (_ : Array Value) = _; exact rfl)))) h1.1 hat hto (by omega) (by omega) (by omega) h2 hi.1 hi.2.2 b _ q ⟨by omega, hb.2⟩ rfl hq).mono ?_
          rintro e w6 ⟨rfl, L6, K6⟩
          have R6 : Blk w6 (NW) #[.int .u64 (wd), .int .i64 (s), .int .u64 ((mavg s a o n tw)), .int .u64 (tw), .int .u64 (q)] 31 := Blk.kept (by (repeat' (first | (with_reducible (first | assumption | exact Blk.alloc_new _ _ _ (by first | rfl | (simp; done) | omega) | apply Blk.drewN | apply Blk.drew | apply Blk.alloc_old | apply Blk.set_same | apply Blk.set_other)) | (show (_ : Nat) ≠ _; first | omega | (simp; done) | (simp; omega)) | ((simp only [List.setIfInBounds_toArray, List.set_cons_succ, List.set_cons_zero]); (with_reducible exact rfl)) | (with_reducible exact rfl) | (show (_ : Array Value) = _; exact rfl)))) K6 (by first | omega | (simp; omega))
          have g6 : Below w.heap.size w w6 := by refine Below.trans ?_ K6.1 <;> (repeat' (first | (with_reducible (first | exact Below.refl _ _ | assumption | refine below_drewN ?_ _ | refine Below.drew ?_ | refine Below.alloc ?_ ?_ _ | refine Below.setCell ?_ ?_ _)) | go_size))
          have hz6 := K6.1.size
          (try simp at hz6)
          clear K6
          replace cL := L6.cell; replace fL := L6.frozen; replace zL := L6.size
          replace cR := R6.cell; replace fR := R6.frozen; replace zR := R6.size
          go_wp2_with fail
          refine (meOpen w.heap.size wd s (mavg s a o n tw) tw q _ (by (repeat' (first | (with_reducible (first | assumption | exact Blk.alloc_new _ _ _ (by first | rfl | (simp; done) | omega) | apply Blk.drewN | apply Blk.drew | apply Blk.alloc_old | apply Blk.set_same | apply Blk.set_other)) | (show (_ : Nat) ≠ _; first | omega | (simp; done) | (simp; omega)) | ((simp only [List.setIfInBounds_toArray, List.set_cons_succ, List.set_cons_zero]); (with_reducible exact rfl)) | (with_reducible exact rfl) | (show (_ : Array Value) = _; exact rfl))))).mono ?_
          rintro e w8 ⟨rfl, hb8⟩
          have L8 : Blk w8 (w.heap.size) #[.int .u64 (wd), .int .u64 (s), .int .u64 ((mavg s a o n tw)), .int .u64 (tw), .int .u64 (q)] 77 := Blk.below (by (repeat' (first | (with_reducible (first | assumption | exact Blk.alloc_new _ _ _ (by first | rfl | (simp; done) | omega) | apply Blk.drewN | apply Blk.drew | apply Blk.alloc_old | apply Blk.set_same | apply Blk.set_other)) | (show (_ : Nat) ≠ _; first | omega | (simp; done) | (simp; omega)) | ((simp only [List.setIfInBounds_toArray, List.set_cons_succ, List.set_cons_zero]); (with_reducible exact rfl)) | (with_reducible exact rfl) | (show (_ : Array Value) = _; exact rfl)))) hb8 (by first | (simp; done) | omega | (simp; omega))
          have R8 : Blk w8 (NW) #[.int .u64 (wd), .int .i64 (s), .int .u64 ((mavg s a o n tw)), .int .u64 (tw), .int .u64 (q)] 31 := Blk.below (by (repeat' (first | (with_reducible (first | assumption | exact Blk.alloc_new _ _ _ (by first | rfl | (simp; done) | omega) | apply Blk.drewN | apply Blk.drew | apply Blk.alloc_old | apply Blk.set_same | apply Blk.set_other)) | (show (_ : Nat) ≠ _; first | omega | (simp; done) | (simp; omega)) | ((simp only [List.setIfInBounds_toArray, List.set_cons_succ, List.set_cons_zero]); (with_reducible exact rfl)) | (with_reducible exact rfl) | (show (_ : Array Value) = _; exact rfl)))) hb8 (by first | (simp; done) | omega | (simp; omega))
          have g8 : Below w.heap.size w w8 := by refine Below.trans ?_ (hb8.mono ?_) <;> (repeat' (first | (with_reducible (first | exact Below.refl _ _ | assumption | refine below_drewN ?_ _ | refine Below.drew ?_ | refine Below.alloc ?_ ?_ _ | refine Below.setCell ?_ ?_ _)) | go_size))
          have hz8 := hb8.size
          (try simp at hz8)
          clear hb8
          replace cL := L8.cell
          replace fL := L8.frozen
          replace zL := L8.size
          replace cR := R8.cell
          replace fR := R8.frozen
          replace zR := R8.size
          go_wp2
          go_roundw
          case rel => exact ⟨k + 1, (mavg s a o n tw), tw, q, by omega, by go_num, by (repeat' (first | (with_reducible (first | exact Below.refl _ _ | assumption | refine below_drewN ?_ _ | refine Below.drew ?_ | refine Below.alloc ?_ ?_ _ | refine Below.setCell ?_ ?_ _)) | go_size)), by (repeat' (first | (with_reducible (first | assumption | exact Blk.alloc_new _ _ _ (by first | rfl | (simp; done) | omega) | apply Blk.drewN | apply Blk.drew | apply Blk.alloc_old | apply Blk.set_same | apply Blk.set_other)) | (show (_ : Nat) ≠ _; first | omega | (simp; done) | (simp; omega)) | ((simp only [List.setIfInBounds_toArray, List.set_cons_succ, List.set_cons_zero]); (with_reducible exact rfl)) | (with_reducible exact rfl) | (show (_ : Array Value) = _; exact rfl))), by (repeat' (first | (with_reducible (first | assumption | exact Blk.alloc_new _ _ _ (by first | rfl | (simp; done) | omega) | apply Blk.drewN | apply Blk.drew | apply Blk.alloc_old | apply Blk.set_same | apply Blk.set_other)) | (show (_ : Nat) ≠ _; first | omega | (simp; done) | (simp; omega)) | ((simp only [List.setIfInBounds_toArray, List.set_cons_succ, List.set_cons_zero]); (with_reducible exact rfl)) | (with_reducible exact rfl) | (show (_ : Array Value) = _; exact rfl))), hi'⟩
          case measure => simp [intOf]; omega
    · go_wp2_with fail
      refine (eighty_true _).mono ?_
      rintro e w3 ⟨rfl, hb3⟩
      have g3 : Below w.heap.size w w3 := by refine Below.trans ?_ (hb3.mono ?_) <;> (repeat' (first | (with_reducible (first | exact Below.refl _ _ | assumption | refine below_drewN ?_ _ | refine Below.drew ?_ | refine Below.alloc ?_ ?_ _ | refine Below.setCell ?_ ?_ _)) | go_size))
      have hz3 := hb3.size
      (try simp at hz3)
      clear hb3
      go_wp2
      go_ret
      exact ⟨rfl, by (repeat' (first | (with_reducible (first | exact Below.refl _ _ | assumption | refine below_drewN ?_ _ | refine Below.drew ?_ | refine Below.alloc ?_ ?_ _ | refine Below.setCell ?_ ?_ _)) | go_size))⟩
theorem MeterCalls_out (wd s : Int) (a0 : Option Addr) (len cap : Nat) (w : World) (h : 60 < len ∨ ¬ (1 ≤ wd ∧ wd ≤ 4294967296 ∧ 0 ≤ s ∧ s ≤ 8)) :
    Calls Try.prog 3 #[.int .u64 wd, .int .i64 s, .slice a0 len cap] w fun e w' => e = .returned (.bool true) ∧ Below w.heap.size w w' := by
  by_cases a1 : 60 < len
  · have d1 : decide ((60 : Int) < (len : Int)) = true := decide_eq_true (by omega)
    go_enter Try.func3, Try.ntmps3
    go_wp2_with fail
    refine (eighty_true _).mono ?_
    rintro e w1 ⟨rfl, hb1⟩
    have g1 : Below w.heap.size w w1 := by refine Below.trans ?_ (hb1.mono ?_) <;> (repeat' (first | (with_reducible (first | exact Below.refl _ _ | assumption | refine below_drewN ?_ _ | refine Below.drew ?_ | refine Below.alloc ?_ ?_ _ | refine Below.setCell ?_ ?_ _)) | go_size))
    have hz1 := hb1.size
    (try simp at hz1)
    clear hb1
    go_wp2
    go_ret
    exact ⟨rfl, by (repeat' (first | (with_reducible (first | exact Below.refl _ _ | assumption | refine below_drewN ?_ _ | refine Below.drew ?_ | refine Below.alloc ?_ ?_ _ | refine Below.setCell ?_ ?_ _)) | go_size))⟩
  · have d1 : decide ((60 : Int) < (len : Int)) = false := decide_eq_false (by omega)
    go_enter Try.func3, Try.ntmps3
    go_wp2_with fail
    refine (meNew_bad wd s _ (by omega)).mono ?_
    rintro e u1 ⟨rfl, rfl⟩
    go_wp2_with fail
    refine (rMay wd s false _ (decide_eq_false (by omega))).mono ?_
    rintro e u2 ⟨rfl, rfl⟩
    go_wp2_with fail
    refine (eighty_true _).mono ?_
    rintro e w3 ⟨rfl, hb3⟩
    have g3 : Below w.heap.size w w3 := by refine Below.trans ?_ (hb3.mono ?_) <;> (repeat' (first | (with_reducible (first | exact Below.refl _ _ | assumption | refine below_drewN ?_ _ | refine Below.drew ?_ | refine Below.alloc ?_ ?_ _ | refine Below.setCell ?_ ?_ _)) | go_size))
    have hz3 := hb3.size
    (try simp at hz3)
    clear hb3
    go_wp2
    go_ret
    exact ⟨rfl, by (repeat' (first | (with_reducible (first | exact Below.refl _ _ | assumption | refine below_drewN ?_ _ | refine Below.drew ?_ | refine Below.alloc ?_ ?_ _ | refine Below.setCell ?_ ?_ _)) | go_size))⟩
theorem MeterCalls_walk (wd : Int) (hwd : 0 ≤ wd ∧ wd ≤ 18446744073709551615) (s : Int) (hs : -9223372036854775808 ≤ s ∧ s ≤ 9223372036854775807) (a0 : Option Addr) (len cap : Nat) (w : World) (h : Rows_call47 w a0 len ∧ len ≤ maxLen) :
    Calls Try.prog 3 #[.int .u64 wd, .int .i64 s, .slice a0 len cap] w fun e w' => e = .returned (.bool true) ∧ Below w.heap.size w w' := by
  by_cases hh : 60 < len ∨ ¬ (1 ≤ wd ∧ wd ≤ 4294967296 ∧ 0 ≤ s ∧ s ≤ 8)
  · exact MeterCalls_out wd s a0 len cap w hh
  · exact MeterCalls_main wd s a0 len cap w (by omega) (by omega) (by omega) h.1
namespace meterCallsDone
theorem own : ownKnob Try.prog.godebug = none := by kernel_rfl
theorem laidOut : laidOutB Try.prog = true := by kernel_rfl
set_option maxRecDepth 100000 in
theorem lifted (os : Os) (started : os.Started) (H : Type) (enc : TypeId × Value → H) :
    ReturnsInHanded {} Try.checked os 3 .any (Rows.meterCallsSpec.pre6 enc Try.prog Try.f3 Rows.meterCallsRow.domain false) (Rows.meterCallsSpec.post enc Try.prog Try.f3 false true false false) := by
  refine returnsInHanded_of_change (C := Try.checked) own started (by kernel_rfl) Try.func3
    (ChangeSpec.witness6 (enc := enc) (C := Try.checked) false ⟨#[], #[.int .u64 0, .int .i64 0, .slice none 0 0], []⟩ 8 (by kernel_rfl) (by kernel_rfl) (by kernel_rfl) (by kernel_rfl)) ?_
  intro W base args ds gs before hval0 hW hcnd _
  have hval : ∀ (j : Nat) t v, Try.f3.params[j]? = some t → args[j]? = some v → Value.okWide Try.prog W .any base t v := hval0
  have hW' := hW
  obtain ⟨p, q, hA0, hV, rfl, hfz, hnd⟩ := hW
  have hA : DataW.TrodAll enc Try.prog W 0 (fun _ => true) true Try.f3.params.toList args.toList ds p := hA0
  rw [Try.params3] at hA hval
  obtain ⟨v0, vs0, d0, ds0, p0, q0, hargs, rfl, rfl, h0, r0⟩ := trodAll_cons hA
  obtain ⟨v1, vs1, d1, ds1, p1, q1, rfl, rfl, rfl, h1, r1⟩ := trodAll_cons r0
  obtain ⟨v2, vs2, d2, ds2, p2, q2, rfl, rfl, rfl, h2, r2⟩ := trodAll_cons r1
  obtain ⟨rfl, rfl, rfl⟩ := trodAll_nil r2
  obtain rfl : args = #[v0, v1, v2] := by cases args; simp_all
  obtain ⟨rfl, rfl⟩ := trodVars_none hV
  obtain ⟨a0, rfl, rfl, rfl, wf0⟩ := open_int Try.underlying22 (hval 0 22 v0 rfl rfl) h0
  have b0 := bounds_u64 wf0
  obtain ⟨a1, rfl, rfl, rfl, wf1⟩ := open_int Try.underlying3 (hval 1 3 v1 rfl rfl) h1
  have b1 := bounds_i64 wf1
  obtain ⟨s2, len2, cap2, rfl⟩ := okWide_slice Try.underlying23 (hval 2 23 v2 rfl rfl)
  have k2 := h2
  have lt2 : ∀ x ∈ p2, x.block < W.heap.size := by obtain ⟨m, hm⟩ := k2; exact DataW.trod_lt m _ _ _ hm
  have w2 : Rows_call47 W s2 len2 ∧ len2 ≤ maxLen := by obtain ⟨fuel, hf⟩ := h2; exact open_call47s (by simpa [Value.cells] using hf)
  clear hA0 hval0
  refine (MeterCalls_walk a0 b0 a1 b1 s2 len2 cap2 W w2).mono fun e W' ⟨he, bel⟩ => ?_
  subst he
  exact ⟨_, rfl, _, _, _, [], _, [], hW', trodAll_mk1 (shut_bool Try.underlying4 _), (trodAll_cons_mk (shut_int Try.underlying22 wf0) (trodAll_cons_mk (shut_int Try.underlying3 wf1) (trodAll_cons_mk (Below.trod laidOut (by kernel_rfl) (of_decide_eq_true (by kernel_rfl)) k2 bel lt2) trodAll_mk0))), rfl, bel.frame _, fun h => by cases h⟩
theorem over : Rows.meterCallsRow.holds Try.pinned (OpenSpec.ofChange Rows.meterCallsSpec) :=
  OpenClaim.holds_of_wide 3 Try.f3 rfl rfl rfl rfl rfl rfl rfl ⟨rfl, rfl, rfl, rfl, rfl⟩ rfl rfl rfl rfl rfl (by kernel_rfl) Try.func3 (by kernel_rfl)
    (of_decide_eq_true (by kernel_rfl)) (by unfold Func.isWrapper; first | (rw [if_pos (by decide +kernel)]; kernel_rfl) | (rw [if_neg (by decide +kernel)]; exact ⟨rfl, rfl⟩))
    (fun os started H enc _ => lifted os started H enc)
end meterCallsDone
theorem MeterCalls_holds : Rows.MeterCallsSaid := meterCallsDone.over

end Go.Proofs.Ytldahcfggeebgaa
