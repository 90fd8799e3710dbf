/-
  The walk of the reference's Decode. Conditions: none on the bytes.
-/
import Derived.Test.YtapikbgloagnkaaPackS
import Derived.Deep.CutRange
import Derived.Deep.DeepCutAuto
namespace Go.Proofs.Ytapikbgloagnkaa
open Go.RowKit
set_option linter.unusedVariables false

theorem bp_forget {P : Program} {f : Func} {Q : Ending → World → Prop} {x : Exit} {a : Act} {W : World} (F : World → Prop) (h : F W) (k : ∀ v, F v → bodyPost P f Q x a v) : bodyPost P f Q x a W := k W h
abbrev got (id len h0 h1 h2 h3 e : Int) : Value := .agg #[.int .u64 id, .int .i64 len, .int .u16 h0, .int .u16 h1, .int .u16 h2, .int .u16 h3, .int .i64 e]
theorem rN_ext (s : ByteArray) (a b : Nat) (w : World) (h : b ≤ s.size) (h8 : b ≤ a + 8) :
    Calls Try.prog 55 #[.string (s.extract a b)] w fun e w' => e = .returned (.int .u64 (nB s a b)) ∧ w = w' :=
  rNumber_any _ _ (by rw [ext_size s a b h]; omega)
theorem rDecode_short (s : ByteArray) (w : World) (h : s.size < 18) :
    Calls Try.prog 31 #[.string s] w fun e w' => e = .returned (got 0 0 0 0 0 0 3) ∧ Below w.heap.size w w' := by
  have hi : (s.size : Int) < 18 := by omega
  go_enter Try.func31, Try.ntmps31
  go_wp2
  go_returns
  exact ⟨rfl, by (repeat' (first | (with_reducible exact Below.refl _ _) | (with_reducible assumption) | (with_reducible refine below_drewN ?_ _) | (with_reducible refine Below.drew ?_) | (with_reducible refine Below.alloc ?_ ?_ _) | (with_reducible refine Below.setCell ?_ ?_ _) | go_size))⟩
theorem rDecode_long (s : ByteArray) (w : World) (h : 18 < s.size) :
    Calls Try.prog 31 #[.string s] w fun e w' => e = .returned (got 0 0 0 0 0 0 2) ∧ Below w.heap.size w w' := by
  have hi : (18 : Int) < s.size := by omega
  have hi2 : ¬ (s.size : Int) < 18 := by omega
  go_enter Try.func31, Try.ntmps31
  go_wp2
  go_returns
  exact ⟨rfl, by (repeat' (first | (with_reducible exact Below.refl _ _) | (with_reducible assumption) | (with_reducible refine below_drewN ?_ _) | (with_reducible refine Below.drew ?_) | (with_reducible refine Below.alloc ?_ ?_ _) | (with_reducible refine Below.setCell ?_ ?_ _) | go_size))⟩
set_option maxHeartbeats 1000000 in
theorem rDecode_ok (s : ByteArray) (w : World) (h1 : 18 ≤ s.size) (h2 : s.size ≤ 18) (hl : 1 ≤ nB s 8 10 ∧ nB s 8 10 ≤ 16384) :
    Calls Try.prog 31 #[.string s] w fun e w' => e = .returned (got (nB s 0 8) (nB s 8 10) (nB s 10 12) (nB s 12 14) (nB s 14 16) (nB s 16 18) 0) ∧ Below w.heap.size w w' := by
  have r0 : 0 ≤ nB s 0 8 ∧ nB s 0 8 ≤ 18446744073709551615 := by have := nB_rng s 0 8 (by omega); simp at this; omega
  have r1 : 0 ≤ nB s 8 10 ∧ nB s 8 10 ≤ 65535 := by have := nB_rng s 8 10 (by omega); simp at this; omega
  have r2 : 0 ≤ nB s 10 12 ∧ nB s 10 12 ≤ 65535 := by have := nB_rng s 10 12 (by omega); simp at this; omega
  have r3 : 0 ≤ nB s 12 14 ∧ nB s 12 14 ≤ 65535 := by have := nB_rng s 12 14 (by omega); simp at this; omega
  have r4 : 0 ≤ nB s 14 16 ∧ nB s 14 16 ≤ 65535 := by have := nB_rng s 14 16 (by omega); simp at this; omega
  have r5 : 0 ≤ nB s 16 18 ∧ nB s 16 18 ≤ 65535 := by have := nB_rng s 16 18 (by omega); simp at this; omega
  have b0 : (8 : Int) ≤ (s.size : Int) := by omega
  have b1 : (10 : Int) ≤ (s.size : Int) := by omega
  have b2 : (12 : Int) ≤ (s.size : Int) := by omega
  have b3 : (14 : Int) ≤ (s.size : Int) := by omega
  have b4 : (16 : Int) ≤ (s.size : Int) := by omega
  have b5 : (18 : Int) ≤ (s.size : Int) := by omega
  have m0 : ¬ (s.size : Int) < 18 := by omega
  have m1 : ¬ (18 : Int) < (s.size : Int) := by omega
  have m2 : 8 ≤ s.size := by omega
  have m3 : 10 ≤ s.size := by omega
  have t1 : decide (nB s 8 10 < 1) = false := decide_eq_false (by omega)
  have t2 : decide (16384 < nB s 8 10) = false := decide_eq_false (by omega)
  have hwl : IntKind.i64.wrap (nB s 8 10) = nB s 8 10 := IntWalk.i64_in _ ⟨by omega, by omega⟩
  have hw2 : IntKind.u16.wrap (nB s 10 12) = nB s 10 12 := IntWalk.u16_in _ r2
  have hw3 : IntKind.u16.wrap (nB s 12 14) = nB s 12 14 := IntWalk.u16_in _ r3
  have hw4 : IntKind.u16.wrap (nB s 14 16) = nB s 14 16 := IntWalk.u16_in _ r4
  have hw5 : IntKind.u16.wrap (nB s 16 18) = nB s 16 18 := IntWalk.u16_in _ r5
  go_enter Try.func31, Try.ntmps31
  go_upto_region 5 with (fail)
  go_cut [3] (fun p3 wx => p3 = .pointer (some ⟨w.heap.size + 1, 0, none⟩) ∧ Below w.heap.size w wx ∧ Blk wx w.heap.size #[.int .u64 0, .int .i64 0, .int .u16 0, .int .u16 0, .int .u16 0, .int .u16 0, .int .i64 0] 50 ∧ Blk wx (w.heap.size + 1) #[.int .u16 (nB s 10 12), .int .u16 (nB s 12 14), .int .u16 (nB s 14 16), .int .u16 (nB s 16 18)] 40)
  case first =>
    go_region_held3 (fun v => Below w.heap.size w v) ((repeat' (first | (with_reducible exact Below.refl _ _) | (with_reducible assumption) | (with_reducible refine below_drewN ?_ _) | (with_reducible refine Below.drew ?_) | (with_reducible refine Below.alloc ?_ ?_ _) | (with_reducible refine Below.setCell ?_ ?_ _) | go_size)))
      (first
      | (go_at_call 55; (with_reducible refine (rN_ext s _ _ _ (by omega) (by omega)).mono ?_); rintro e w' ⟨rfl, rfl⟩))
    all_goals
      go_wp2_with fail
      go_meet
      exact ⟨rfl, by (repeat' (first | (with_reducible exact Below.refl _ _) | (with_reducible assumption) | (with_reducible refine below_drewN ?_ _) | (with_reducible refine Below.drew ?_) | (with_reducible refine Below.alloc ?_ ?_ _) | (with_reducible refine Below.setCell ?_ ?_ _) | go_size)), by (repeat' (first | (with_reducible assumption) | (with_reducible exact Blk.alloc_new _ _ _ (by first | rfl | (simp; done) | omega)) | (with_reducible refine Blk.drewN ?_ _) | (with_reducible refine Blk.drew ?_) | (with_reducible refine Blk.alloc_old ?_ _) | (with_reducible apply Blk.set_same) | (with_reducible refine Blk.set_other ?_ (by first | omega | (simp; done) | (simp; omega)) _) | (exact rfl))), by (repeat' (first | (with_reducible assumption) | (with_reducible exact Blk.alloc_new _ _ _ (by first | rfl | (simp; done) | omega)) | (with_reducible refine Blk.drewN ?_ _) | (with_reducible refine Blk.drew ?_) | (with_reducible refine Blk.alloc_old ?_ _) | (with_reducible apply Blk.set_same) | (with_reducible refine Blk.set_other ?_ (by first | omega | (simp; done) | (simp; omega)) _) | (exact rfl)))⟩
  case rest =>
    obtain ⟨rfl, g1, R1, H1⟩ := hcut
    have cR := R1.cell; have cH := H1.cell; have fR := R1.frozen; have zR := R1.size; have zH := H1.size
    go_upto_region 6 with (fail)
    go_cut [4] (fun p4 wx => ∃ X, p4 = .pointer (some ⟨X, 0, none⟩) ∧ w.heap.size + 1 < X ∧ Below w.heap.size w wx ∧ Blk wx w.heap.size #[.int .u64 0, .int .i64 0, .int .u16 0, .int .u16 0, .int .u16 0, .int .u16 0, .int .i64 0] 50 ∧ Blk wx X #[.int .u64 (nB s 0 8), .int .i64 (nB s 8 10), .int .u16 (nB s 10 12), .int .u16 (nB s 12 14), .int .u16 (nB s 14 16), .int .u16 (nB s 16 18)] 42)
    case first =>
      go_region_held3 (fun v => Below w.heap.size w v ∧ (∀ i, v.cell? ⟨w.heap.size + 1, i, none⟩ = #[.int .u16 (nB s 10 12), .int .u16 (nB s 12 14), .int .u16 (nB s 14 16), .int .u16 (nB s 16 18)][i]?) ∧ Blk v w.heap.size #[.int .u64 0, .int .i64 0, .int .u16 0, .int .u16 0, .int .u16 0, .int .u16 0, .int .i64 0] 50)
        (first | (refine ⟨?_, ?_, ?_⟩ <;> first | (with_reducible assumption) | ((repeat' (first | (with_reducible assumption) | (with_reducible exact Blk.alloc_new _ _ _ (by first | rfl | (simp; done) | omega)) | (with_reducible refine Blk.drewN ?_ _) | (with_reducible refine Blk.drew ?_) | (with_reducible refine Blk.alloc_old ?_ _) | (with_reducible apply Blk.set_same) | (with_reducible refine Blk.set_other ?_ (by first | omega | (simp; done) | (simp; omega)) _) | (exact rfl))); done) | ((repeat' (first | (with_reducible exact Below.refl _ _) | (with_reducible assumption) | (with_reducible refine below_drewN ?_ _) | (with_reducible refine Below.drew ?_) | (with_reducible refine Below.alloc ?_ ?_ _) | (with_reducible refine Below.setCell ?_ ?_ _) | go_size)); done) | (go_simp; done) | (exact Blk.cell (by (repeat' (first | (with_reducible assumption) | (with_reducible exact Blk.alloc_new _ _ _ (by first | rfl | (simp; done) | omega)) | (with_reducible refine Blk.drewN ?_ _) | (with_reducible refine Blk.drew ?_) | (with_reducible refine Blk.alloc_old ?_ _) | (with_reducible apply Blk.set_same) | (with_reducible refine Blk.set_other ?_ (by first | omega | (simp; done) | (simp; omega)) _) | (exact rfl)))))))
        (first
      | (go_at_call 55; (with_reducible refine (rN_ext s _ _ _ (by omega) (by omega)).mono ?_); rintro e w' ⟨rfl, rfl⟩))
      all_goals
        go_wp2_with fail
        go_meet
        exact ⟨_, rfl, by first | omega | (simp; omega), by (repeat' (first | (with_reducible exact Below.refl _ _) | (with_reducible assumption) | (with_reducible refine below_drewN ?_ _) | (with_reducible refine Below.drew ?_) | (with_reducible refine Below.alloc ?_ ?_ _) | (with_reducible refine Below.setCell ?_ ?_ _) | go_size)), by (repeat' (first | (with_reducible assumption) | (with_reducible exact Blk.alloc_new _ _ _ (by first | rfl | (simp; done) | omega)) | (with_reducible refine Blk.drewN ?_ _) | (with_reducible refine Blk.drew ?_) | (with_reducible refine Blk.alloc_old ?_ _) | (with_reducible apply Blk.set_same) | (with_reducible refine Blk.set_other ?_ (by first | omega | (simp; done) | (simp; omega)) _) | (exact rfl))), by (repeat' (first | (with_reducible assumption) | (with_reducible exact Blk.alloc_new _ _ _ (by first | rfl | (simp; done) | omega)) | (with_reducible refine Blk.drewN ?_ _) | (with_reducible refine Blk.drew ?_) | (with_reducible refine Blk.alloc_old ?_ _) | (with_reducible apply Blk.set_same) | (with_reducible refine Blk.set_other ?_ (by first | omega | (simp; done) | (simp; omega)) _) | (exact rfl)))⟩
    case rest =>
      obtain ⟨X, rfl, zX0, g2, R2, X2⟩ := hcut
      have cR := R2.cell; have cX := X2.cell; have fR := R2.frozen; have zR := R2.size; have zX := X2.size
      go_wp2
      refine bp_forget (fun v => Below w.heap.size w v ∧ Blk v w.heap.size (#[.int .u64 (nB s 0 8), .int .i64 (nB s 8 10), .int .u16 (nB s 10 12), .int .u16 (nB s 12 14), .int .u16 (nB s 14 16), .int .u16 (nB s 16 18), .int .i64 0]) 50) ⟨by (repeat' (first | (with_reducible exact Below.refl _ _) | (with_reducible assumption) | (with_reducible refine below_drewN ?_ _) | (with_reducible refine Below.drew ?_) | (with_reducible refine Below.alloc ?_ ?_ _) | (with_reducible refine Below.setCell ?_ ?_ _) | go_size)), by (repeat' (first | (with_reducible assumption) | (with_reducible exact Blk.alloc_new _ _ _ (by first | rfl | (simp; done) | omega)) | (with_reducible refine Blk.drewN ?_ _) | (with_reducible refine Blk.drew ?_) | (with_reducible refine Blk.alloc_old ?_ _) | (with_reducible apply Blk.set_same) | (with_reducible refine Blk.set_other ?_ (by first | omega | (simp; done) | (simp; omega)) _) | (exact rfl)))⟩ ?_
      clear cR cX fR zR
      rintro v ⟨gv, Bv⟩
      have cv := Bv.cell
      refine bodyPost_ret (v := got (nB s 0 8) (nB s 8 10) (nB s 10 12) (nB s 12 14) (nB s 14 16) (nB s 16 18) 0) (by simp [results, Try.results31, go_sem, cv]) rfl ⟨rfl, gv⟩
set_option maxHeartbeats 1000000 in
theorem rDecode_lt (s : ByteArray) (w : World) (h1 : 18 ≤ s.size) (h2 : s.size ≤ 18) (hl : nB s 8 10 < 1) :
    Calls Try.prog 31 #[.string s] w fun e w' => e = .returned (got 0 0 0 0 0 0 26) ∧ Below w.heap.size w w' := by
  have r0 : 0 ≤ nB s 0 8 ∧ nB s 0 8 ≤ 18446744073709551615 := by have := nB_rng s 0 8 (by omega); simp at this; omega
  have r1 : 0 ≤ nB s 8 10 ∧ nB s 8 10 ≤ 65535 := by have := nB_rng s 8 10 (by omega); simp at this; omega
  have r2 : 0 ≤ nB s 10 12 ∧ nB s 10 12 ≤ 65535 := by have := nB_rng s 10 12 (by omega); simp at this; omega
  have r3 : 0 ≤ nB s 12 14 ∧ nB s 12 14 ≤ 65535 := by have := nB_rng s 12 14 (by omega); simp at this; omega
  have r4 : 0 ≤ nB s 14 16 ∧ nB s 14 16 ≤ 65535 := by have := nB_rng s 14 16 (by omega); simp at this; omega
  have r5 : 0 ≤ nB s 16 18 ∧ nB s 16 18 ≤ 65535 := by have := nB_rng s 16 18 (by omega); simp at this; omega
  have b0 : (8 : Int) ≤ (s.size : Int) := by omega
  have b1 : (10 : Int) ≤ (s.size : Int) := by omega
  have b2 : (12 : Int) ≤ (s.size : Int) := by omega
  have b3 : (14 : Int) ≤ (s.size : Int) := by omega
  have b4 : (16 : Int) ≤ (s.size : Int) := by omega
  have b5 : (18 : Int) ≤ (s.size : Int) := by omega
  have m0 : ¬ (s.size : Int) < 18 := by omega
  have m1 : ¬ (18 : Int) < (s.size : Int) := by omega
  have m2 : 8 ≤ s.size := by omega
  have m3 : 10 ≤ s.size := by omega
  have t1 : decide (nB s 8 10 < 1) = true := decide_eq_true hl
  have hwl : IntKind.i64.wrap (nB s 8 10) = nB s 8 10 := IntWalk.i64_in _ ⟨by omega, by omega⟩
  have hw2 : IntKind.u16.wrap (nB s 10 12) = nB s 10 12 := IntWalk.u16_in _ r2
  have hw3 : IntKind.u16.wrap (nB s 12 14) = nB s 12 14 := IntWalk.u16_in _ r3
  have hw4 : IntKind.u16.wrap (nB s 14 16) = nB s 14 16 := IntWalk.u16_in _ r4
  have hw5 : IntKind.u16.wrap (nB s 16 18) = nB s 16 18 := IntWalk.u16_in _ r5
  go_enter Try.func31, Try.ntmps31
  go_upto_region 5 with (fail)
  go_cut [3] (fun p3 wx => p3 = .pointer (some ⟨w.heap.size + 1, 0, none⟩) ∧ Below w.heap.size w wx ∧ Blk wx w.heap.size #[.int .u64 0, .int .i64 0, .int .u16 0, .int .u16 0, .int .u16 0, .int .u16 0, .int .i64 0] 50 ∧ Blk wx (w.heap.size + 1) #[.int .u16 (nB s 10 12), .int .u16 (nB s 12 14), .int .u16 (nB s 14 16), .int .u16 (nB s 16 18)] 40)
  case first =>
    go_region_held3 (fun v => Below w.heap.size w v) ((repeat' (first | (with_reducible exact Below.refl _ _) | (with_reducible assumption) | (with_reducible refine below_drewN ?_ _) | (with_reducible refine Below.drew ?_) | (with_reducible refine Below.alloc ?_ ?_ _) | (with_reducible refine Below.setCell ?_ ?_ _) | go_size)))
      (first
      | (go_at_call 55; (with_reducible refine (rN_ext s _ _ _ (by omega) (by omega)).mono ?_); rintro e w' ⟨rfl, rfl⟩))
    all_goals
      go_wp2_with fail
      go_meet
      exact ⟨rfl, by (repeat' (first | (with_reducible exact Below.refl _ _) | (with_reducible assumption) | (with_reducible refine below_drewN ?_ _) | (with_reducible refine Below.drew ?_) | (with_reducible refine Below.alloc ?_ ?_ _) | (with_reducible refine Below.setCell ?_ ?_ _) | go_size)), by (repeat' (first | (with_reducible assumption) | (with_reducible exact Blk.alloc_new _ _ _ (by first | rfl | (simp; done) | omega)) | (with_reducible refine Blk.drewN ?_ _) | (with_reducible refine Blk.drew ?_) | (with_reducible refine Blk.alloc_old ?_ _) | (with_reducible apply Blk.set_same) | (with_reducible refine Blk.set_other ?_ (by first | omega | (simp; done) | (simp; omega)) _) | (exact rfl))), by (repeat' (first | (with_reducible assumption) | (with_reducible exact Blk.alloc_new _ _ _ (by first | rfl | (simp; done) | omega)) | (with_reducible refine Blk.drewN ?_ _) | (with_reducible refine Blk.drew ?_) | (with_reducible refine Blk.alloc_old ?_ _) | (with_reducible apply Blk.set_same) | (with_reducible refine Blk.set_other ?_ (by first | omega | (simp; done) | (simp; omega)) _) | (exact rfl)))⟩
  case rest =>
    obtain ⟨rfl, g1, R1, H1⟩ := hcut
    have cR := R1.cell; have cH := H1.cell; have fR := R1.frozen; have zR := R1.size; have zH := H1.size
    go_upto_region 6 with (fail)
    go_cut [4] (fun p4 wx => ∃ X, p4 = .pointer (some ⟨X, 0, none⟩) ∧ w.heap.size + 1 < X ∧ Below w.heap.size w wx ∧ Blk wx w.heap.size #[.int .u64 0, .int .i64 0, .int .u16 0, .int .u16 0, .int .u16 0, .int .u16 0, .int .i64 0] 50 ∧ Blk wx X #[.int .u64 (nB s 0 8), .int .i64 (nB s 8 10), .int .u16 (nB s 10 12), .int .u16 (nB s 12 14), .int .u16 (nB s 14 16), .int .u16 (nB s 16 18)] 42)
    case first =>
      go_region_held3 (fun v => Below w.heap.size w v ∧ (∀ i, v.cell? ⟨w.heap.size + 1, i, none⟩ = #[.int .u16 (nB s 10 12), .int .u16 (nB s 12 14), .int .u16 (nB s 14 16), .int .u16 (nB s 16 18)][i]?) ∧ Blk v w.heap.size #[.int .u64 0, .int .i64 0, .int .u16 0, .int .u16 0, .int .u16 0, .int .u16 0, .int .i64 0] 50)
        (first | (refine ⟨?_, ?_, ?_⟩ <;> first | (with_reducible assumption) | ((repeat' (first | (with_reducible assumption) | (with_reducible exact Blk.alloc_new _ _ _ (by first | rfl | (simp; done) | omega)) | (with_reducible refine Blk.drewN ?_ _) | (with_reducible refine Blk.drew ?_) | (with_reducible refine Blk.alloc_old ?_ _) | (with_reducible apply Blk.set_same) | (with_reducible refine Blk.set_other ?_ (by first | omega | (simp; done) | (simp; omega)) _) | (exact rfl))); done) | ((repeat' (first | (with_reducible exact Below.refl _ _) | (with_reducible assumption) | (with_reducible refine below_drewN ?_ _) | (with_reducible refine Below.drew ?_) | (with_reducible refine Below.alloc ?_ ?_ _) | (with_reducible refine Below.setCell ?_ ?_ _) | go_size)); done) | (go_simp; done) | (exact Blk.cell (by (repeat' (first | (with_reducible assumption) | (with_reducible exact Blk.alloc_new _ _ _ (by first | rfl | (simp; done) | omega)) | (with_reducible refine Blk.drewN ?_ _) | (with_reducible refine Blk.drew ?_) | (with_reducible refine Blk.alloc_old ?_ _) | (with_reducible apply Blk.set_same) | (with_reducible refine Blk.set_other ?_ (by first | omega | (simp; done) | (simp; omega)) _) | (exact rfl)))))))
        (first
      | (go_at_call 55; (with_reducible refine (rN_ext s _ _ _ (by omega) (by omega)).mono ?_); rintro e w' ⟨rfl, rfl⟩))
      all_goals
        go_wp2_with fail
        go_meet
        exact ⟨_, rfl, by first | omega | (simp; omega), by (repeat' (first | (with_reducible exact Below.refl _ _) | (with_reducible assumption) | (with_reducible refine below_drewN ?_ _) | (with_reducible refine Below.drew ?_) | (with_reducible refine Below.alloc ?_ ?_ _) | (with_reducible refine Below.setCell ?_ ?_ _) | go_size)), by (repeat' (first | (with_reducible assumption) | (with_reducible exact Blk.alloc_new _ _ _ (by first | rfl | (simp; done) | omega)) | (with_reducible refine Blk.drewN ?_ _) | (with_reducible refine Blk.drew ?_) | (with_reducible refine Blk.alloc_old ?_ _) | (with_reducible apply Blk.set_same) | (with_reducible refine Blk.set_other ?_ (by first | omega | (simp; done) | (simp; omega)) _) | (exact rfl))), by (repeat' (first | (with_reducible assumption) | (with_reducible exact Blk.alloc_new _ _ _ (by first | rfl | (simp; done) | omega)) | (with_reducible refine Blk.drewN ?_ _) | (with_reducible refine Blk.drew ?_) | (with_reducible refine Blk.alloc_old ?_ _) | (with_reducible apply Blk.set_same) | (with_reducible refine Blk.set_other ?_ (by first | omega | (simp; done) | (simp; omega)) _) | (exact rfl)))⟩
    case rest =>
      obtain ⟨X, rfl, zX0, g2, R2, X2⟩ := hcut
      have cR := R2.cell; have cX := X2.cell; have fR := R2.frozen; have zR := R2.size; have zX := X2.size
      go_wp2
      refine bp_forget (fun v => Below w.heap.size w v ∧ Blk v w.heap.size (#[.int .u64 0, .int .i64 0, .int .u16 0, .int .u16 0, .int .u16 0, .int .u16 0, .int .i64 26]) 50) ⟨by (repeat' (first | (with_reducible exact Below.refl _ _) | (with_reducible assumption) | (with_reducible refine below_drewN ?_ _) | (with_reducible refine Below.drew ?_) | (with_reducible refine Below.alloc ?_ ?_ _) | (with_reducible refine Below.setCell ?_ ?_ _) | go_size)), by (repeat' (first | (with_reducible assumption) | (with_reducible exact Blk.alloc_new _ _ _ (by first | rfl | (simp; done) | omega)) | (with_reducible refine Blk.drewN ?_ _) | (with_reducible refine Blk.drew ?_) | (with_reducible refine Blk.alloc_old ?_ _) | (with_reducible apply Blk.set_same) | (with_reducible refine Blk.set_other ?_ (by first | omega | (simp; done) | (simp; omega)) _) | (exact rfl)))⟩ ?_
      clear cR cX fR zR
      rintro v ⟨gv, Bv⟩
      have cv := Bv.cell
      refine bodyPost_ret (v := got 0 0 0 0 0 0 26) (by simp [results, Try.results31, go_sem, cv]) rfl ⟨rfl, gv⟩
set_option maxHeartbeats 1000000 in
theorem rDecode_gt (s : ByteArray) (w : World) (h1 : 18 ≤ s.size) (h2 : s.size ≤ 18) (hl : 16384 < nB s 8 10) :
    Calls Try.prog 31 #[.string s] w fun e w' => e = .returned (got 0 0 0 0 0 0 26) ∧ Below w.heap.size w w' := by
  have r0 : 0 ≤ nB s 0 8 ∧ nB s 0 8 ≤ 18446744073709551615 := by have := nB_rng s 0 8 (by omega); simp at this; omega
  have r1 : 0 ≤ nB s 8 10 ∧ nB s 8 10 ≤ 65535 := by have := nB_rng s 8 10 (by omega); simp at this; omega
  have r2 : 0 ≤ nB s 10 12 ∧ nB s 10 12 ≤ 65535 := by have := nB_rng s 10 12 (by omega); simp at this; omega
  have r3 : 0 ≤ nB s 12 14 ∧ nB s 12 14 ≤ 65535 := by have := nB_rng s 12 14 (by omega); simp at this; omega
  have r4 : 0 ≤ nB s 14 16 ∧ nB s 14 16 ≤ 65535 := by have := nB_rng s 14 16 (by omega); simp at this; omega
  have r5 : 0 ≤ nB s 16 18 ∧ nB s 16 18 ≤ 65535 := by have := nB_rng s 16 18 (by omega); simp at this; omega
  have b0 : (8 : Int) ≤ (s.size : Int) := by omega
  have b1 : (10 : Int) ≤ (s.size : Int) := by omega
  have b2 : (12 : Int) ≤ (s.size : Int) := by omega
  have b3 : (14 : Int) ≤ (s.size : Int) := by omega
  have b4 : (16 : Int) ≤ (s.size : Int) := by omega
  have b5 : (18 : Int) ≤ (s.size : Int) := by omega
  have m0 : ¬ (s.size : Int) < 18 := by omega
  have m1 : ¬ (18 : Int) < (s.size : Int) := by omega
  have m2 : 8 ≤ s.size := by omega
  have m3 : 10 ≤ s.size := by omega
  have t1 : decide (nB s 8 10 < 1) = false := decide_eq_false (by omega)
  have t2 : decide (16384 < nB s 8 10) = true := decide_eq_true hl
  have hwl : IntKind.i64.wrap (nB s 8 10) = nB s 8 10 := IntWalk.i64_in _ ⟨by omega, by omega⟩
  have hw2 : IntKind.u16.wrap (nB s 10 12) = nB s 10 12 := IntWalk.u16_in _ r2
  have hw3 : IntKind.u16.wrap (nB s 12 14) = nB s 12 14 := IntWalk.u16_in _ r3
  have hw4 : IntKind.u16.wrap (nB s 14 16) = nB s 14 16 := IntWalk.u16_in _ r4
  have hw5 : IntKind.u16.wrap (nB s 16 18) = nB s 16 18 := IntWalk.u16_in _ r5
  go_enter Try.func31, Try.ntmps31
  go_upto_region 5 with (fail)
  go_cut [3] (fun p3 wx => p3 = .pointer (some ⟨w.heap.size + 1, 0, none⟩) ∧ Below w.heap.size w wx ∧ Blk wx w.heap.size #[.int .u64 0, .int .i64 0, .int .u16 0, .int .u16 0, .int .u16 0, .int .u16 0, .int .i64 0] 50 ∧ Blk wx (w.heap.size + 1) #[.int .u16 (nB s 10 12), .int .u16 (nB s 12 14), .int .u16 (nB s 14 16), .int .u16 (nB s 16 18)] 40)
  case first =>
    go_region_held3 (fun v => Below w.heap.size w v) ((repeat' (first | (with_reducible exact Below.refl _ _) | (with_reducible assumption) | (with_reducible refine below_drewN ?_ _) | (with_reducible refine Below.drew ?_) | (with_reducible refine Below.alloc ?_ ?_ _) | (with_reducible refine Below.setCell ?_ ?_ _) | go_size)))
      (first
      | (go_at_call 55; (with_reducible refine (rN_ext s _ _ _ (by omega) (by omega)).mono ?_); rintro e w' ⟨rfl, rfl⟩))
    all_goals
      go_wp2_with fail
      go_meet
      exact ⟨rfl, by (repeat' (first | (with_reducible exact Below.refl _ _) | (with_reducible assumption) | (with_reducible refine below_drewN ?_ _) | (with_reducible refine Below.drew ?_) | (with_reducible refine Below.alloc ?_ ?_ _) | (with_reducible refine Below.setCell ?_ ?_ _) | go_size)), by (repeat' (first | (with_reducible assumption) | (with_reducible exact Blk.alloc_new _ _ _ (by first | rfl | (simp; done) | omega)) | (with_reducible refine Blk.drewN ?_ _) | (with_reducible refine Blk.drew ?_) | (with_reducible refine Blk.alloc_old ?_ _) | (with_reducible apply Blk.set_same) | (with_reducible refine Blk.set_other ?_ (by first | omega | (simp; done) | (simp; omega)) _) | (exact rfl))), by (repeat' (first | (with_reducible assumption) | (with_reducible exact Blk.alloc_new _ _ _ (by first | rfl | (simp; done) | omega)) | (with_reducible refine Blk.drewN ?_ _) | (with_reducible refine Blk.drew ?_) | (with_reducible refine Blk.alloc_old ?_ _) | (with_reducible apply Blk.set_same) | (with_reducible refine Blk.set_other ?_ (by first | omega | (simp; done) | (simp; omega)) _) | (exact rfl)))⟩
  case rest =>
    obtain ⟨rfl, g1, R1, H1⟩ := hcut
    have cR := R1.cell; have cH := H1.cell; have fR := R1.frozen; have zR := R1.size; have zH := H1.size
    go_upto_region 6 with (fail)
    go_cut [4] (fun p4 wx => ∃ X, p4 = .pointer (some ⟨X, 0, none⟩) ∧ w.heap.size + 1 < X ∧ Below w.heap.size w wx ∧ Blk wx w.heap.size #[.int .u64 0, .int .i64 0, .int .u16 0, .int .u16 0, .int .u16 0, .int .u16 0, .int .i64 0] 50 ∧ Blk wx X #[.int .u64 (nB s 0 8), .int .i64 (nB s 8 10), .int .u16 (nB s 10 12), .int .u16 (nB s 12 14), .int .u16 (nB s 14 16), .int .u16 (nB s 16 18)] 42)
    case first =>
      go_region_held3 (fun v => Below w.heap.size w v ∧ (∀ i, v.cell? ⟨w.heap.size + 1, i, none⟩ = #[.int .u16 (nB s 10 12), .int .u16 (nB s 12 14), .int .u16 (nB s 14 16), .int .u16 (nB s 16 18)][i]?) ∧ Blk v w.heap.size #[.int .u64 0, .int .i64 0, .int .u16 0, .int .u16 0, .int .u16 0, .int .u16 0, .int .i64 0] 50)
        (first | (refine ⟨?_, ?_, ?_⟩ <;> first | (with_reducible assumption) | ((repeat' (first | (with_reducible assumption) | (with_reducible exact Blk.alloc_new _ _ _ (by first | rfl | (simp; done) | omega)) | (with_reducible refine Blk.drewN ?_ _) | (with_reducible refine Blk.drew ?_) | (with_reducible refine Blk.alloc_old ?_ _) | (with_reducible apply Blk.set_same) | (with_reducible refine Blk.set_other ?_ (by first | omega | (simp; done) | (simp; omega)) _) | (exact rfl))); done) | ((repeat' (first | (with_reducible exact Below.refl _ _) | (with_reducible assumption) | (with_reducible refine below_drewN ?_ _) | (with_reducible refine Below.drew ?_) | (with_reducible refine Below.alloc ?_ ?_ _) | (with_reducible refine Below.setCell ?_ ?_ _) | go_size)); done) | (go_simp; done) | (exact Blk.cell (by (repeat' (first | (with_reducible assumption) | (with_reducible exact Blk.alloc_new _ _ _ (by first | rfl | (simp; done) | omega)) | (with_reducible refine Blk.drewN ?_ _) | (with_reducible refine Blk.drew ?_) | (with_reducible refine Blk.alloc_old ?_ _) | (with_reducible apply Blk.set_same) | (with_reducible refine Blk.set_other ?_ (by first | omega | (simp; done) | (simp; omega)) _) | (exact rfl)))))))
        (first
      | (go_at_call 55; (with_reducible refine (rN_ext s _ _ _ (by omega) (by omega)).mono ?_); rintro e w' ⟨rfl, rfl⟩))
      all_goals
        go_wp2_with fail
        go_meet
        exact ⟨_, rfl, by first | omega | (simp; omega), by (repeat' (first | (with_reducible exact Below.refl _ _) | (with_reducible assumption) | (with_reducible refine below_drewN ?_ _) | (with_reducible refine Below.drew ?_) | (with_reducible refine Below.alloc ?_ ?_ _) | (with_reducible refine Below.setCell ?_ ?_ _) | go_size)), by (repeat' (first | (with_reducible assumption) | (with_reducible exact Blk.alloc_new _ _ _ (by first | rfl | (simp; done) | omega)) | (with_reducible refine Blk.drewN ?_ _) | (with_reducible refine Blk.drew ?_) | (with_reducible refine Blk.alloc_old ?_ _) | (with_reducible apply Blk.set_same) | (with_reducible refine Blk.set_other ?_ (by first | omega | (simp; done) | (simp; omega)) _) | (exact rfl))), by (repeat' (first | (with_reducible assumption) | (with_reducible exact Blk.alloc_new _ _ _ (by first | rfl | (simp; done) | omega)) | (with_reducible refine Blk.drewN ?_ _) | (with_reducible refine Blk.drew ?_) | (with_reducible refine Blk.alloc_old ?_ _) | (with_reducible apply Blk.set_same) | (with_reducible refine Blk.set_other ?_ (by first | omega | (simp; done) | (simp; omega)) _) | (exact rfl)))⟩
    case rest =>
      obtain ⟨X, rfl, zX0, g2, R2, X2⟩ := hcut
      have cR := R2.cell; have cX := X2.cell; have fR := R2.frozen; have zR := R2.size; have zX := X2.size
      go_wp2
      refine bp_forget (fun v => Below w.heap.size w v ∧ Blk v w.heap.size (#[.int .u64 0, .int .i64 0, .int .u16 0, .int .u16 0, .int .u16 0, .int .u16 0, .int .i64 26]) 50) ⟨by (repeat' (first | (with_reducible exact Below.refl _ _) | (with_reducible assumption) | (with_reducible refine below_drewN ?_ _) | (with_reducible refine Below.drew ?_) | (with_reducible refine Below.alloc ?_ ?_ _) | (with_reducible refine Below.setCell ?_ ?_ _) | go_size)), by (repeat' (first | (with_reducible assumption) | (with_reducible exact Blk.alloc_new _ _ _ (by first | rfl | (simp; done) | omega)) | (with_reducible refine Blk.drewN ?_ _) | (with_reducible refine Blk.drew ?_) | (with_reducible refine Blk.alloc_old ?_ _) | (with_reducible apply Blk.set_same) | (with_reducible refine Blk.set_other ?_ (by first | omega | (simp; done) | (simp; omega)) _) | (exact rfl)))⟩ ?_
      clear cR cX fR zR
      rintro v ⟨gv, Bv⟩
      have cv := Bv.cell
      refine bodyPost_ret (v := got 0 0 0 0 0 0 26) (by simp [results, Try.results31, go_sem, cv]) rfl ⟨rfl, gv⟩
end Go.Proofs.Ytapikbgloagnkaa
