/-
  The walks of the reference's meter. Conditions: numbers in range.
-/
import Derived.Test.YtldahcfggeebgaaMeter
import Derived.Deep.RegionHeld3
import Derived.Test.YtldahcfggeebgaaCalm
namespace Go.Proofs.Ytldahcfggeebgaa
open Go.RowKit
set_option linter.unusedVariables false
set_option linter.unusedSimpArgs false
theorem bp_forget {P : Program} {f : Func} {Q : Ending → World → Prop} {x : Exit} {a : Act} {W : World} (F : World → Prop) (h : F W) (k : ∀ v, F v → bodyPost P f Q x a v) : bodyPost P f Q x a W := k W h
theorem half_succ {v q : Int} {k : Nat} (h : v / 2 ^ k = q) : v / 2 ^ (k + 1) = q / 2 := by
  rw [← h, Int.pow_succ, Int.ediv_ediv_of_nonneg (Int.le_of_lt (Int.pow_pos (by decide)))]
theorem rHalved (v s q : Int) (w : World) (hv : 0 ≤ v ∧ v ≤ 18446744073709551615) (hs : 0 ≤ s ∧ s ≤ 8) (hq : v / 2 ^ s.toNat = q) :
    Calls Try.prog 46 #[.int .u64 v, .int .i64 s] w fun e w' => e = .returned (.int .u64 q) ∧ w = w' := by
  have Hq := hide hq; clear hq
  go_enter Try.func46, Try.ntmps46
  go_wp2
  go_loopw [0, 6] (fun x i wr => ∃ (k : Nat) (y : Int), (k : Int) ≤ s ∧ v / 2 ^ k = y ∧ x = .int .u64 y ∧ i = .int .i64 k ∧ wr = w) (fun _ i _ => s.toNat - (intOf i).toNat)
  case atStart => exact ⟨0, v, by omega, by simp, rfl, rfl, rfl⟩
  case round =>
    obtain ⟨k, y, hk, hy, rfl, rfl, rfl⟩ := hrel
    have y1 : 0 ≤ y ∧ y ≤ 18446744073709551615 := by
      have := quot_rng (a := v) (P := 2 ^ k) hv.1 (by have : (0 : Int) < 2 ^ k := Int.pow_pos (by decide); omega)
      omega
    have Hy := hide hy; clear hy
    go_wp2
    · go_roundw
      case rel => exact ⟨k + 1, y / 2, by omega, half_succ Hy.out, rfl, by go_num, by first | rfl | trivial⟩
      case measure => simp [intOf]; omega
    · have e : y = q := by rw [← Hy.out, ← Hq.out, show k = s.toNat by omega]
      go_ret
      exact ⟨reti e, rfl⟩
theorem rHalvedB (v s q : Int) (w : World) (hv : 0 ≤ v ∧ v ≤ 18446744073709551615) (hs : 0 ≤ s ∧ s ≤ 8) (hq : v / 2 ^ s.toNat = q) :
    Calls Try.prog 46 #[.int .u64 v, .int .i64 s] w fun e w' => e = .returned (.int .u64 q) ∧ Below w.heap.size w w' :=
  (rHalved v s q w hv hs hq).mono fun e w' ⟨h1, h2⟩ => ⟨h1, h2 ▸ Below.refl _ _⟩
theorem rmBad (wd s a n o : Int) (w : World) (at_ to : Int) (b : Bool) (hw : 1 ≤ wd) (hat : 0 ≤ at_ ∧ at_ ≤ 18446744073709551615) (hto : at_ / wd = to) (hb : decide (to < n ∨ 4611686018427387904 < at_) = b) :
    Calls Try.prog 16 #[.agg #[.int .u64 (wd), .int .i64 (s), .int .u64 (a), .int .u64 (n), .int .u64 (o)], .int .u64 at_] w fun e w' => e = .returned (.bool b) ∧ Below w.heap.size w w' := by
  have w0 : ¬ wd = 0 := by omega
  have hq := wtd hw hat hto
  clear hto
  by_cases c1 : to < n
  · have d1 : decide (to < n) = true := decide_eq_true c1
    go_enter Try.func16, Try.ntmps16
    go_wp2
    go_quiet (fail)
    go_wp2
    go_ret
    exact ⟨retb (by rw [← hb]; simp [c1]), by (repeat' (first | (with_reducible (first | exact Below.refl _ _ | assumption | refine below_drewN ?_ _ | refine Below.drew ?_ | refine Below.alloc ?_ ?_ _ | refine Below.setCell ?_ ?_ _)) | go_size))⟩
  · have d1 : decide (to < n) = false := decide_eq_false c1
    go_enter Try.func16, Try.ntmps16
    go_wp2
    go_quiet (fail)
    go_wp2
    go_ret
    exact ⟨retb (by rw [← hb]; exact decide_eq_decide.2 (by omega)), by (repeat' (first | (with_reducible (first | exact Below.refl _ _ | assumption | refine below_drewN ?_ _ | refine Below.drew ?_ | refine Below.alloc ?_ ?_ _ | refine Below.setCell ?_ ?_ _)) | go_size))⟩
theorem rmClose (wd s a n o : Int) (w : World) (r : Int) (hs : 0 ≤ s ∧ s ≤ 8) (ha : 0 ≤ a ∧ a ≤ 72057594037927936) (hb : 0 ≤ o ∧ o ≤ 1099511627776) (hn : 0 ≤ n ∧ n < 18446744073709551615) (hr : mst s a o = r) :
    Calls Try.prog 36 #[.agg #[.int .u64 (wd), .int .i64 (s), .int .u64 (a), .int .u64 (n), .int .u64 (o)]] w fun e w' => e = .returned (.agg #[.int .u64 (wd), .int .i64 (s), .int .u64 (r), .int .u64 (n + 1), .int .u64 (0)]) ∧ Below w.heap.size w w' := by
  obtain ⟨q1, h1⟩ : ∃ q, a / 2 ^ s.toNat = q := ⟨_, rfl⟩
  obtain ⟨q2, h2⟩ : ∃ q, o * 65536 / 2 ^ s.toNat = q := ⟨_, rfl⟩
  have r1 := quot_rng ha.1 (pow_pos s)
  have r2 := quot_rng (show 0 ≤ o * 65536 by omega) (pow_pos s)
  rw [h1] at r1; rw [h2] at r2
  have hrr : a - q1 + q2 = r := by rw [← hr, ← h1, ← h2]; rfl
  have H1 := hide h1; have H2 := hide h2; clear h1 h2 hr
  go_enter Try.func36, Try.ntmps36
  go_wp2_with fail
  refine wp_forget (fun v => Below w.heap.size w v ∧ Blk v (w.heap.size) #[.int .u64 (wd), .int .i64 (s), .int .u64 (a), .int .u64 (n), .int .u64 (o)] 31 ∧ Blk v (w.heap.size + 1) #[.int .u64 0, .int .i64 0, .int .u64 0, .int .u64 0, .int .u64 0] 31) ⟨by (repeat' (first | (with_reducible (first | exact Below.refl _ _ | assumption | refine below_drewN ?_ _ | refine Below.drew ?_ | refine Below.alloc ?_ ?_ _ | refine Below.setCell ?_ ?_ _)) | go_size)), by (repeat' (first | (with_reducible (first | assumption | exact Blk.alloc_new _ _ _ (by first | rfl | (simp; done) | omega) | apply Blk.drewN | apply Blk.drew | apply Blk.alloc_old | apply Blk.set_same | apply Blk.set_other)) | (show (_ : Nat) ≠ _; first | omega | (simp; done) | (simp; omega)) | ((simp only [List.setIfInBounds_toArray, List.set_cons_succ, List.set_cons_zero]); (with_reducible exact rfl)) | (with_reducible exact rfl) | (show (_ : Array Value) = _; exact rfl))), by (repeat' (first | (with_reducible (first | assumption | exact Blk.alloc_new _ _ _ (by first | rfl | (simp; done) | omega) | apply Blk.drewN | apply Blk.drew | apply Blk.alloc_old | apply Blk.set_same | apply Blk.set_other)) | (show (_ : Nat) ≠ _; first | omega | (simp; done) | (simp; omega)) | ((simp only [List.setIfInBounds_toArray, List.set_cons_succ, List.set_cons_zero]); (with_reducible exact rfl)) | (with_reducible exact rfl) | (show (_ : Array Value) = _; exact rfl)))⟩ ?_
  rintro v1 ⟨gv1, Av1, Rv1⟩
  have qA1 := blk_calm Av1
  have qR1 := blk_calm Rv1
  refine wp_region_quiet_below (by kernel_rfl) (by kernel_rfl) ?_
  repeat (go_big_quiet_step ((first
      | (go_at_call 46; (with_reducible exact Calls.regrown_of (rHalvedB a s q1 _ ⟨by omega, by omega⟩ hs H1.out)))
      | (go_at_call 46; (with_reducible exact Calls.regrown_of (rHalvedB (o * 65536) s q2 _ ⟨by omega, by omega⟩ hs H2.out))))))
  refine wpQuiet_nil ?_
  intro _ hw'
  obtain ⟨pq, hw''⟩ := hw'
  subst hw''
  have hb1 := below_regrown v1 pq.d pq.os
  generalize Sort.grow (redrawn v1 pq.d) pq.os = w1 at *
  have A1 : Blk w1 (w.heap.size) #[.int .u64 (wd), .int .i64 (s), .int .u64 (a), .int .u64 (n), .int .u64 (o)] 31 := Blk.below Av1 hb1 Av1.size
  have R1 : Blk w1 (w.heap.size + 1) #[.int .u64 0, .int .i64 0, .int .u64 0, .int .u64 0, .int .u64 0] 31 := Blk.below Rv1 hb1 Rv1.size
  have g1 : Below w.heap.size w w1 := gv1.trans (hb1.mono gv1.size)
  have hz1 : w.heap.size ≤ w1.heap.size := g1.size
  clear hb1 gv1 Av1 qA1 Rv1 qR1
  replace cA := A1.cell
  replace fA := A1.frozen
  replace zA := A1.size
  replace cR := R1.cell
  replace fR := R1.frozen
  replace zR := R1.size
  go_wp2
  refine bp_forget (fun v => Below w.heap.size w v ∧ Blk v (w.heap.size + 1) #[.int .u64 (wd), .int .i64 (s), .int .u64 (r), .int .u64 (n + 1), .int .u64 (0)] 31) ⟨by (repeat' (first | (with_reducible (first | exact Below.refl _ _ | assumption | refine below_drewN ?_ _ | refine Below.drew ?_ | refine Below.alloc ?_ ?_ _ | refine Below.setCell ?_ ?_ _)) | go_size)), by (repeat' (first | (with_reducible (first | assumption | exact Blk.alloc_new _ _ _ (by first | rfl | (simp; done) | omega) | apply Blk.drewN | apply Blk.drew | apply Blk.alloc_old | apply Blk.set_same | apply Blk.set_other)) | (show (_ : Nat) ≠ _; first | omega | (simp; done) | (simp; omega)) | ((simp only [List.setIfInBounds_toArray, List.set_cons_succ, List.set_cons_zero]); (with_reducible exact rfl)) | (with_reducible exact rfl) | (show (_ : Array Value) = _; exact rfl)))⟩ ?_
  rintro v ⟨gv, Bv⟩
  have cv := Bv.cell
  refine bodyPost_ret (v := .agg #[.int .u64 (wd), .int .i64 (s), .int .u64 (r), .int .u64 (n + 1), .int .u64 (0)]) (by simp [results, Try.results36, go_sem, cv]) rfl ⟨rfl, gv⟩
theorem meas3 {wr W : World} {O : Nat} {to k k' : Int} {cs : Array Value} {t : TypeId} (hm : intOf ((wr.cell? ⟨O, 3, none⟩).getD undef) = k) (h : Blk W O cs t) (hcs : intOf ((cs[3]?).getD undef) = k') (hk : k < k') (hto : k < to) :
    (to - intOf ((W.cell? ⟨O, 3, none⟩).getD undef)).toNat < (to - intOf ((wr.cell? ⟨O, 3, none⟩).getD undef)).toNat := by
  rw [hm, h.cell, hcs]; omega
def TRel (wd s A O to : Int) (w wr : World) : Prop := ∃ b k q : Int, Below w.heap.size w wr ∧ Blk wr (w.heap.size + 1) #[.int .u64 0, .int .i64 0, .int .u64 0, .int .u64 0, .int .u64 0] 31 ∧ Blk wr (w.heap.size + 1 + 1) #[.int .u64 (wd), .int .i64 (s), .int .u64 (b), .int .u64 (k), .int .u64 (q)] 31 ∧ (0 ≤ k ∧ k ≤ to) ∧ (0 ≤ b ∧ b ≤ 72057594037927936) ∧ (0 ≤ q ∧ q ≤ 1099511627776) ∧ mavg s b q k to = A ∧ mopen q k to = O
set_option maxHeartbeats 2000000 in
theorem rmTurn (wd s a n o : Int) (w : World) (at_ to : Int) (hw : 1 ≤ wd) (hat : 0 ≤ at_ ∧ at_ ≤ 4611686018427387904) (hto : at_ / wd = to) (h2 : n ≤ to) (hn : 0 ≤ n) (hs : 0 ≤ s ∧ s ≤ 8) (ha : 0 ≤ a ∧ a ≤ 72057594037927936) (hb : 0 ≤ o ∧ o ≤ 1099511627776) :
    Calls Try.prog 17 #[.agg #[.int .u64 (wd), .int .i64 (s), .int .u64 (a), .int .u64 (n), .int .u64 (o)], .int .u64 at_] w fun e w' => e = .returned (.agg #[.int .u64 (wd), .int .i64 (s), .int .u64 (mavg s a o n to), .int .u64 (to), .int .u64 (mopen o n to)]) ∧ Below w.heap.size w w' := by
  have w0 : ¬ wd = 0 := by omega
  have hq := wtd hw ⟨hat.1, by omega⟩ hto
  have hq2 : 0 ≤ to ∧ to ≤ 4611686018427387904 := by
    rw [← hto]; exact ⟨Int.ediv_nonneg hat.1 (by omega), Int.le_trans (Int.ediv_le_self _ hat.1) hat.2⟩
  clear hto
  obtain ⟨AV, hAV⟩ : ∃ x, mavg s a o n to = x := ⟨_, rfl⟩
  obtain ⟨OV, hOV⟩ : ∃ x, mopen o n to = x := ⟨_, rfl⟩
  rw [hAV, hOV]
  go_enter Try.func17, Try.ntmps17
  go_wp2
  go_loopw [7] (fun _ wr => TRel wd s AV OV to w wr) (fun _ wr => (to - intOf ((wr.cell? ⟨w.heap.size + 1 + 1, 3, none⟩).getD undef)).toNat)
  case atStart => exact ⟨a, n, o, by (repeat' (first | (with_reducible (first | exact Below.refl _ _ | assumption | refine below_drewN ?_ _ | refine Below.drew ?_ | refine Below.alloc ?_ ?_ _ | refine Below.setCell ?_ ?_ _)) | go_size)), by (repeat' (first | (with_reducible (first | assumption | exact Blk.alloc_new _ _ _ (by first | rfl | (simp; done) | omega) | apply Blk.drewN | apply Blk.drew | apply Blk.alloc_old | apply Blk.set_same | apply Blk.set_other)) | (show (_ : Nat) ≠ _; first | omega | (simp; done) | (simp; omega)) | ((simp only [List.setIfInBounds_toArray, List.set_cons_succ, List.set_cons_zero]); (with_reducible exact rfl)) | (with_reducible exact rfl) | (show (_ : Array Value) = _; exact rfl))), by (repeat' (first | (with_reducible (first | assumption | exact Blk.alloc_new _ _ _ (by first | rfl | (simp; done) | omega) | apply Blk.drewN | apply Blk.drew | apply Blk.alloc_old | apply Blk.set_same | apply Blk.set_other)) | (show (_ : Nat) ≠ _; first | omega | (simp; done) | (simp; omega)) | ((simp only [List.setIfInBounds_toArray, List.set_cons_succ, List.set_cons_zero]); (with_reducible exact rfl)) | (with_reducible exact rfl) | (show (_ : Array Value) = _; exact rfl))), ⟨hn, h2⟩, ha, hb, hAV, hOV⟩
  case round =>
    obtain ⟨b, k, q, g0, R0, O0, hk, hb0, hq0, hA, hO⟩ := hrel
    have zO := O0.size
    have cO := O0.cell; have cR := R0.cell; have fR := R0.frozen; have fO := O0.frozen; have zR := R0.size
    have hm : intOf ((wr.cell? ⟨w.heap.size + 1 + 1, 3, none⟩).getD undef) = k := by rw [cO]; rfl
    have HA := hide hA; have HO := hide hO; clear hA hO
    by_cases hlt : k < to
    · obtain ⟨c, hc⟩ : ∃ c, mst s b q = c := ⟨_, rfl⟩
      have hc0 := mst_rng (s := s) (C := 72057594037927936) hb0 ⟨hq0.1, by omega⟩
      rw [hc] at hc0
      go_wp2_with fail
      refine (rmClose wd s b k q _ c hs hb0 hq0 ⟨hk.1, by omega⟩ hc).mono ?_
      rintro e w1 ⟨rfl, hb1⟩
      have R1 : Blk w1 (w.heap.size + 1) #[.int .u64 0, .int .i64 0, .int .u64 0, .int .u64 0, .int .u64 0] 31 := Blk.below (by (repeat' (first | (with_reducible (first | assumption | exact Blk.alloc_new _ _ _ (by first | rfl | (simp; done) | omega) | apply Blk.drewN | apply Blk.drew | apply Blk.alloc_old | apply Blk.set_same | apply Blk.set_other)) | (show (_ : Nat) ≠ _; first | omega | (simp; done) | (simp; omega)) | ((simp only [List.setIfInBounds_toArray, List.set_cons_succ, List.set_cons_zero]); (with_reducible exact rfl)) | (with_reducible exact rfl) | (show (_ : Array Value) = _; exact rfl)))) hb1 (by first | (simp; done) | omega | (simp; omega))
      have O1 : Blk w1 (w.heap.size + 1 + 1) #[.int .u64 (wd), .int .i64 (s), .int .u64 (b), .int .u64 (k), .int .u64 (q)] 31 := Blk.below (by (repeat' (first | (with_reducible (first | assumption | exact Blk.alloc_new _ _ _ (by first | rfl | (simp; done) | omega) | apply Blk.drewN | apply Blk.drew | apply Blk.alloc_old | apply Blk.set_same | apply Blk.set_other)) | (show (_ : Nat) ≠ _; first | omega | (simp; done) | (simp; omega)) | ((simp only [List.setIfInBounds_toArray, List.set_cons_succ, List.set_cons_zero]); (with_reducible exact rfl)) | (with_reducible exact rfl) | (show (_ : Array Value) = _; exact rfl)))) hb1 (by first | (simp; done) | omega | (simp; omega))
      have g1 : Below w.heap.size w w1 := by refine Below.trans ?_ (hb1.mono ?_) <;> (repeat' (first | (with_reducible (first | exact Below.refl _ _ | assumption | refine below_drewN ?_ _ | refine Below.drew ?_ | refine Below.alloc ?_ ?_ _ | refine Below.setCell ?_ ?_ _)) | go_size))
      have hz1 := hb1.size
      (try simp at hz1)
      clear hb1
      replace cR := R1.cell
      replace fR := R1.frozen
      replace zR := R1.size
      replace cO := O1.cell
      replace fO := O1.frozen
      replace zO := O1.size
      by_cases hz : q = 0
      · have d1 : (q == 0) = true := beq_iff_eq.2 hz
        by_cases he : c = b
        · have d2 : (c == b) = true := beq_iff_eq.2 he
          have e1 : b = AV := by
            rw [← HA.out, hz]
            refine (mavg_stays ?_).symm
            rw [hz] at hc; rw [hc, he]
          have e2 : (0 : Int) = OV := by rw [← HO.out, hz]; exact (mopen_zero _ _).symm
          go_wp2
          refine bp_forget (fun v => Below w.heap.size w v ∧ Blk v (w.heap.size + 1) #[.int .u64 (wd), .int .i64 (s), .int .u64 (AV), .int .u64 (to), .int .u64 (OV)] 31) ⟨by (repeat' (first | (with_reducible (first | exact Below.refl _ _ | assumption | refine below_drewN ?_ _ | refine Below.drew ?_ | refine Below.alloc ?_ ?_ _ | refine Below.setCell ?_ ?_ _)) | go_size)), by (repeat' (first | (with_reducible (first | assumption | exact Blk.alloc_new _ _ _ (by first | rfl | (simp; done) | omega) | apply Blk.drewN | apply Blk.drew | apply Blk.alloc_old | apply Blk.set_same | apply Blk.set_other)) | (show (_ : Nat) ≠ _; first | omega | (simp; done) | (simp; omega)) | ((simp only [List.setIfInBounds_toArray, List.set_cons_succ, List.set_cons_zero]); (with_reducible exact rfl)) | (with_reducible exact rfl) | (show (_ : Array Value) = _; exact rfl)))⟩ ?_
          rintro v ⟨gv, Bv⟩
          have cv := Bv.cell
          refine bodyPost_ret (v := .agg #[.int .u64 (wd), .int .i64 (s), .int .u64 (AV), .int .u64 (to), .int .u64 (OV)]) (by simp [results, Try.results17, go_sem, cv]) rfl ⟨rfl, gv⟩
        · have d2 : (c == b) = false := beq_eq_false_iff_ne.2 he
          go_wp2
          go_roundw
          case rel => exact ⟨c, k + 1, 0, by (repeat' (first | (with_reducible (first | exact Below.refl _ _ | assumption | refine below_drewN ?_ _ | refine Below.drew ?_ | refine Below.alloc ?_ ?_ _ | refine Below.setCell ?_ ?_ _)) | go_size)), by (repeat' (first | (with_reducible (first | assumption | exact Blk.alloc_new _ _ _ (by first | rfl | (simp; done) | omega) | apply Blk.drewN | apply Blk.drew | apply Blk.alloc_old | apply Blk.set_same | apply Blk.set_other)) | (show (_ : Nat) ≠ _; first | omega | (simp; done) | (simp; omega)) | ((simp only [List.setIfInBounds_toArray, List.set_cons_succ, List.set_cons_zero]); (with_reducible exact rfl)) | (with_reducible exact rfl) | (show (_ : Array Value) = _; exact rfl))), by (repeat' (first | (with_reducible (first | assumption | exact Blk.alloc_new _ _ _ (by first | rfl | (simp; done) | omega) | apply Blk.drewN | apply Blk.drew | apply Blk.alloc_old | apply Blk.set_same | apply Blk.set_other)) | (show (_ : Nat) ≠ _; first | omega | (simp; done) | (simp; omega)) | ((simp only [List.setIfInBounds_toArray, List.set_cons_succ, List.set_cons_zero]); (with_reducible exact rfl)) | (with_reducible exact rfl) | (show (_ : Array Value) = _; exact rfl))), ⟨by omega, by omega⟩, hc0, ⟨by omega, by omega⟩, by rw [← HA.out, ← mavg_close hlt, hc], by rw [← HO.out, mopen_zero, mopen_close hlt]⟩
          case measure => exact meas3 (k' := k + 1) (cs := #[.int .u64 (wd), .int .i64 (s), .int .u64 (c), .int .u64 (k + 1), .int .u64 (0)]) (t := 31) hm (by (repeat' (first | (with_reducible (first | assumption | exact Blk.alloc_new _ _ _ (by first | rfl | (simp; done) | omega) | apply Blk.drewN | apply Blk.drew | apply Blk.alloc_old | apply Blk.set_same | apply Blk.set_other)) | (show (_ : Nat) ≠ _; first | omega | (simp; done) | (simp; omega)) | ((simp only [List.setIfInBounds_toArray, List.set_cons_succ, List.set_cons_zero]); (with_reducible exact rfl)) | (with_reducible exact rfl) | (show (_ : Array Value) = _; exact rfl)))) rfl (by omega) hlt
      · have d1 : (q == 0) = false := beq_eq_false_iff_ne.2 hz
        go_wp2
        go_roundw
        case rel => exact ⟨c, k + 1, 0, by (repeat' (first | (with_reducible (first | exact Below.refl _ _ | assumption | refine below_drewN ?_ _ | refine Below.drew ?_ | refine Below.alloc ?_ ?_ _ | refine Below.setCell ?_ ?_ _)) | go_size)), by (repeat' (first | (with_reducible (first | assumption | exact Blk.alloc_new _ _ _ (by first | rfl | (simp; done) | omega) | apply Blk.drewN | apply Blk.drew | apply Blk.alloc_old | apply Blk.set_same | apply Blk.set_other)) | (show (_ : Nat) ≠ _; first | omega | (simp; done) | (simp; omega)) | ((simp only [List.setIfInBounds_toArray, List.set_cons_succ, List.set_cons_zero]); (with_reducible exact rfl)) | (with_reducible exact rfl) | (show (_ : Array Value) = _; exact rfl))), by (repeat' (first | (with_reducible (first | assumption | exact Blk.alloc_new _ _ _ (by first | rfl | (simp; done) | omega) | apply Blk.drewN | apply Blk.drew | apply Blk.alloc_old | apply Blk.set_same | apply Blk.set_other)) | (show (_ : Nat) ≠ _; first | omega | (simp; done) | (simp; omega)) | ((simp only [List.setIfInBounds_toArray, List.set_cons_succ, List.set_cons_zero]); (with_reducible exact rfl)) | (with_reducible exact rfl) | (show (_ : Array Value) = _; exact rfl))), ⟨by omega, by omega⟩, hc0, ⟨by omega, by omega⟩, by rw [← HA.out, ← mavg_close hlt, hc], by rw [← HO.out, mopen_zero, mopen_close hlt]⟩
        case measure => exact meas3 (k' := k + 1) (cs := #[.int .u64 (wd), .int .i64 (s), .int .u64 (c), .int .u64 (k + 1), .int .u64 (0)]) (t := 31) hm (by (repeat' (first | (with_reducible (first | assumption | exact Blk.alloc_new _ _ _ (by first | rfl | (simp; done) | omega) | apply Blk.drewN | apply Blk.drew | apply Blk.alloc_old | apply Blk.set_same | apply Blk.set_other)) | (show (_ : Nat) ≠ _; first | omega | (simp; done) | (simp; omega)) | ((simp only [List.setIfInBounds_toArray, List.set_cons_succ, List.set_cons_zero]); (with_reducible exact rfl)) | (with_reducible exact rfl) | (show (_ : Array Value) = _; exact rfl)))) rfl (by omega) hlt
    · have ek : k = to := by omega
      have e1 : b = AV := by rw [← HA.out]; unfold mavg; rw [if_pos (by omega)]
      have e2 : q = OV := by rw [← HO.out]; unfold mopen; rw [if_pos (by omega)]
      go_wp2
      refine bp_forget (fun v => Below w.heap.size w v ∧ Blk v (w.heap.size + 1) #[.int .u64 (wd), .int .i64 (s), .int .u64 (AV), .int .u64 (to), .int .u64 (OV)] 31) ⟨by (repeat' (first | (with_reducible (first | exact Below.refl _ _ | assumption | refine below_drewN ?_ _ | refine Below.drew ?_ | refine Below.alloc ?_ ?_ _ | refine Below.setCell ?_ ?_ _)) | go_size)), by (repeat' (first | (with_reducible (first | assumption | exact Blk.alloc_new _ _ _ (by first | rfl | (simp; done) | omega) | apply Blk.drewN | apply Blk.drew | apply Blk.alloc_old | apply Blk.set_same | apply Blk.set_other)) | (show (_ : Nat) ≠ _; first | omega | (simp; done) | (simp; omega)) | ((simp only [List.setIfInBounds_toArray, List.set_cons_succ, List.set_cons_zero]); (with_reducible exact rfl)) | (with_reducible exact rfl) | (show (_ : Array Value) = _; exact rfl)))⟩ ?_
      rintro v ⟨gv, Bv⟩
      have cv := Bv.cell
      refine bodyPost_ret (v := .agg #[.int .u64 (wd), .int .i64 (s), .int .u64 (AV), .int .u64 (to), .int .u64 (OV)]) (by simp [results, Try.results17, go_sem, cv]) rfl ⟨rfl, gv⟩
end Go.Proofs.Ytldahcfggeebgaa
