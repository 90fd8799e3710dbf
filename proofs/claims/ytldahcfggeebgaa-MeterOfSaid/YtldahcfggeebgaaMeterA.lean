/-
  The walks of the meter's Add and Average, and of the reference's Add; the closed example 'eighty'. Conditions: numbers in range.
-/
import Derived.Test.YtldahcfggeebgaaMeterR
namespace Go.Proofs.Ytldahcfggeebgaa
open Go.RowKit
set_option linter.unusedVariables false
set_option linter.unusedSimpArgs false
theorem meTurn_ok (L : Nat) (wd s a n o at_ to : Int) (w : World) (hL : Blk w L #[.int .u64 (wd), .int .u64 (s), .int .u64 (a), .int .u64 (n), .int .u64 (o)] 77) (hw : 1 ≤ wd) (hat : 0 ≤ at_ ∧ at_ ≤ 18446744073709551615) (hto : at_ / wd = to) (h1 : at_ ≤ 4611686018427387904) (h2 : n ≤ to) (hn : 0 ≤ n) (hs : 0 ≤ s ∧ s ≤ 8) (ha : 0 ≤ a ∧ a ≤ 72057594037927936) (hb : 0 ≤ o ∧ o ≤ 1099511627776) :
    Calls Try.prog 35 #[.pointer (some ⟨L, 0, none⟩), .int .u64 at_] w fun e w' => e = .returned (.int .i64 0) ∧ Blk w' L #[.int .u64 (wd), .int .u64 (s), .int .u64 (mavg s a o n to), .int .u64 (to), .int .u64 (mopen o n to)] 77 ∧ KeptBut L w w' := by
  by_cases h : n = to
  · refine (meTurn_same L wd s a n o at_ to w hL hw hat hto h1 h).mono fun e w' ⟨e1, e2⟩ => ⟨e1, ?_, KeptBut.of_below e2 (Nat.le_of_lt hL.size)⟩
    have := hL.below e2 hL.size
    unfold mavg mopen
    rw [if_pos (by omega), if_pos (by omega), ← h]
    exact this
  · refine (meTurn_go L wd s a n o at_ to w hL hw hat hto h1 (by omega) hn hs ha hb).mono fun e w' ⟨e1, e2, e3⟩ => ⟨e1, ?_, e3⟩
    rw [mopen_close (by omega)]
    exact e2
theorem meAvg_nil (at_ : Int) (w : World) :
    Calls Try.prog 15 #[.pointer none, .int .u64 at_] w fun e w' => e = .returned (.tuple #[.int .u64 0, .int .i64 7]) ∧ Below w.heap.size w w' := by
  go_enter Try.func15, Try.ntmps15
  go_wp2
  go_returns
  exact ⟨rfl, by (repeat' (first | (with_reducible (first | exact Below.refl _ _ | assumption | refine below_drewN ?_ _ | refine Below.drew ?_ | refine Below.alloc ?_ ?_ _ | refine Below.setCell ?_ ?_ _)) | go_size))⟩
theorem meAvg_bad (L : Nat) (wd s a n o at_ to : Int) (w : World) (hL : Blk w L #[.int .u64 (wd), .int .u64 (s), .int .u64 (a), .int .u64 (n), .int .u64 (o)] 77) (hw : 1 ≤ wd) (hat : 0 ≤ at_ ∧ at_ ≤ 18446744073709551615) (hto : at_ / wd = to) (h : to < n ∨ 4611686018427387904 < at_) :
    Calls Try.prog 15 #[.pointer (some ⟨L, 0, none⟩), .int .u64 at_] w fun e w' => e = .returned (.tuple #[.int .u64 0, .int .i64 27]) ∧ Below w.heap.size w w' := by
  have cL := hL.cell; have zL := hL.size; have fL := hL.frozen
  go_enter Try.func15, Try.ntmps15
  go_wp2_with fail
  refine (meTurn_bad L wd s a n o at_ to _ hL hw hat hto h).mono ?_
  rintro e w1 ⟨rfl, hb1⟩
  have g1 : Below w.heap.size w w1 := by refine Below.trans ?_ (hb1.mono ?_) <;> (repeat' (first | (with_reducible (first | exact Below.refl _ _ | assumption | refine below_drewN ?_ _ | refine Below.drew ?_ | refine Below.alloc ?_ ?_ _ | refine Below.setCell ?_ ?_ _)) | go_size))
  have hz1 := hb1.size
  (try simp at hz1)
  clear hb1
  go_wp2
  go_returns
  exact ⟨rfl, by (repeat' (first | (with_reducible (first | exact Below.refl _ _ | assumption | refine below_drewN ?_ _ | refine Below.drew ?_ | refine Below.alloc ?_ ?_ _ | refine Below.setCell ?_ ?_ _)) | go_size))⟩
theorem meAvg_ok (L : Nat) (wd s a n o at_ to : Int) (w : World) (hL : Blk w L #[.int .u64 (wd), .int .u64 (s), .int .u64 (a), .int .u64 (n), .int .u64 (o)] 77) (hw : 1 ≤ wd) (hat : 0 ≤ at_ ∧ at_ ≤ 18446744073709551615) (hto : at_ / wd = to) (h1 : at_ ≤ 4611686018427387904) (h2 : n ≤ to) (hn : 0 ≤ n) (hs : 0 ≤ s ∧ s ≤ 8) (ha : 0 ≤ a ∧ a ≤ 72057594037927936) (hb : 0 ≤ o ∧ o ≤ 1099511627776) (r q : Int) (hr : mavg s a o n to = r) (hq : mopen o n to = q) :
    Calls Try.prog 15 #[.pointer (some ⟨L, 0, none⟩), .int .u64 at_] w fun e w' => e = .returned (.tuple #[.int .u64 r, .int .i64 0]) ∧ Blk w' L #[.int .u64 (wd), .int .u64 (s), .int .u64 (r), .int .u64 (to), .int .u64 (q)] 77 ∧ KeptBut L w w' := by
  subst hr hq
  have cL := hL.cell; have zL := hL.size; have fL := hL.frozen
  go_enter Try.func15, Try.ntmps15
  go_wp2_with fail
  refine (meTurn_ok L wd s a n o at_ to _ hL hw hat hto h1 h2 hn hs ha hb).mono ?_
  rintro e w1 ⟨rfl, L1, K1⟩
  have cL1 := L1.cell; have zL1 := L1.size; have fL1 := L1.frozen
  go_wp2
  go_returns
  exact ⟨rfl, by (repeat' (first | (with_reducible (first | assumption | exact Blk.alloc_new _ _ _ (by first | rfl | (simp; done) | omega) | apply Blk.drewN | apply Blk.drew | apply Blk.alloc_old | apply Blk.set_same | apply Blk.set_other)) | (show (_ : Nat) ≠ _; first | omega | (simp; done) | (simp; omega)) | ((simp only [List.setIfInBounds_toArray, List.set_cons_succ, List.set_cons_zero]); (with_reducible exact rfl)) | (with_reducible exact rfl) | (show (_ : Array Value) = _; exact rfl))), by first | exact K1 | exact K1.drewN _⟩
theorem me_q {L : Nat} {v : World} {wd s a n q q' : Int} {t : TypeId} (h : q = q') (hB : Blk v L #[.int .u64 (wd), .int .u64 (s), .int .u64 (a), .int .u64 (n), .int .u64 (q')] t) : Blk v L #[.int .u64 (wd), .int .u64 (s), .int .u64 (a), .int .u64 (n), .int .u64 (q)] t := by rw [h]; exact hB
theorem meAdd_nil (at_ b : Int) (w : World) :
    Calls Try.prog 19 #[.pointer none, .int .u64 at_, .int .i64 b] w fun e w' => e = .returned (.int .i64 7) ∧ Below w.heap.size w w' := by
  go_enter Try.func19, Try.ntmps19
  go_wp2
  go_ret
  exact ⟨rfl, by (repeat' (first | (with_reducible (first | exact Below.refl _ _ | assumption | refine below_drewN ?_ _ | refine Below.drew ?_ | refine Below.alloc ?_ ?_ _ | refine Below.setCell ?_ ?_ _)) | go_size))⟩
theorem meAdd_len (L : Nat) (at_ b : Int) (w : World) (hb : b < 0) :
    Calls Try.prog 19 #[.pointer (some ⟨L, 0, none⟩), .int .u64 at_, .int .i64 b] w fun e w' => e = .returned (.int .i64 26) ∧ Below w.heap.size w w' := by
  have d1 : decide (b < 0) = true := decide_eq_true hb
  go_enter Try.func19, Try.ntmps19
  go_wp2
  go_ret
  exact ⟨rfl, by (repeat' (first | (with_reducible (first | exact Below.refl _ _ | assumption | refine below_drewN ?_ _ | refine Below.drew ?_ | refine Below.alloc ?_ ?_ _ | refine Below.setCell ?_ ?_ _)) | go_size))⟩
theorem meAdd_bad (L : Nat) (wd s a n o at_ to : Int) (w : World) (hL : Blk w L #[.int .u64 (wd), .int .u64 (s), .int .u64 (a), .int .u64 (n), .int .u64 (o)] 77) (hw : 1 ≤ wd) (hat : 0 ≤ at_ ∧ at_ ≤ 18446744073709551615) (hto : at_ / wd = to) (b : Int) (hb : 0 ≤ b) (h : to < n ∨ 4611686018427387904 < at_) :
    Calls Try.prog 19 #[.pointer (some ⟨L, 0, none⟩), .int .u64 at_, .int .i64 b] w fun e w' => e = .returned (.int .i64 27) ∧ Below w.heap.size w w' := by
  have cL := hL.cell; have zL := hL.size; have fL := hL.frozen
  have d1 : decide (b < 0) = false := decide_eq_false (by omega)
  go_enter Try.func19, Try.ntmps19
  go_wp2_with fail
  refine (meTurn_bad L wd s a n o at_ to _ hL hw hat hto h).mono ?_
  rintro e w1 ⟨rfl, hb1⟩
  have g1 : Below w.heap.size w w1 := by refine Below.trans ?_ (hb1.mono ?_) <;> (repeat' (first | (with_reducible (first | exact Below.refl _ _ | assumption | refine below_drewN ?_ _ | refine Below.drew ?_ | refine Below.alloc ?_ ?_ _ | refine Below.setCell ?_ ?_ _)) | go_size))
  have hz1 := hb1.size
  (try simp at hz1)
  clear hb1
  go_wp2
  go_ret
  exact ⟨rfl, by (repeat' (first | (with_reducible (first | exact Below.refl _ _ | assumption | refine below_drewN ?_ _ | refine Below.drew ?_ | refine Below.alloc ?_ ?_ _ | refine Below.setCell ?_ ?_ _)) | go_size))⟩
theorem meAdd_ok (L : Nat) (wd s a n o at_ to : Int) (w : World) (hL : Blk w L #[.int .u64 (wd), .int .u64 (s), .int .u64 (a), .int .u64 (n), .int .u64 (o)] 77) (hw : 1 ≤ wd) (hat : 0 ≤ at_ ∧ at_ ≤ 18446744073709551615) (hto : at_ / wd = to) (h1 : at_ ≤ 4611686018427387904) (h2 : n ≤ to) (hn : 0 ≤ n) (hs : 0 ≤ s ∧ s ≤ 8) (ha : 0 ≤ a ∧ a ≤ 72057594037927936) (hb : 0 ≤ o ∧ o ≤ 1099511627776) (b r q : Int) (hbb : 0 ≤ b ∧ b ≤ 9223372036854775807) (hr : mavg s a o n to = r) (hq : min (mopen o n to + b) 1099511627776 = q) :
    Calls Try.prog 19 #[.pointer (some ⟨L, 0, none⟩), .int .u64 at_, .int .i64 b] w fun e w' => e = .returned (.int .i64 0) ∧ Blk w' L #[.int .u64 (wd), .int .u64 (s), .int .u64 (r), .int .u64 (to), .int .u64 (q)] 77 ∧ KeptBut L w w' := by
  subst hr
  have cL := hL.cell; have zL := hL.size; have fL := hL.frozen
  have d1 : decide (b < 0) = false := decide_eq_false (by omega)
  have hm := mopen_rng (b := o) (num := n) (to := to) hb
  obtain ⟨m, hmm⟩ : ∃ m, mopen o n to = m := ⟨_, rfl⟩
  rw [hmm] at hm hq
  have hwb : IntKind.u64.wrap b = b := IntWalk.u64_in _ ⟨by omega, by omega⟩
  go_enter Try.func19, Try.ntmps19
  go_wp2_with fail
  refine (meTurn_ok L wd s a n o at_ to _ hL hw hat hto h1 h2 hn hs ha hb).mono ?_
  rw [hmm]
  rintro e w1 ⟨rfl, L1, K1⟩
  have cL1 := L1.cell; have zL1 := L1.size; have fL1 := L1.frozen
  go_wp2
  all_goals
    go_ret
    refine ⟨rfl, ?_, K1.setCell _ _⟩
    first
      | (refine me_q (q' := m + 1099511627776) ?_ ?_; omega; (repeat' (first | (with_reducible (first | assumption | exact Blk.alloc_new _ _ _ (by first | rfl | (simp; done) | omega) | apply Blk.drewN | apply Blk.drew | apply Blk.alloc_old | apply Blk.set_same | apply Blk.set_other)) | (show (_ : Nat) ≠ _; first | omega | (simp; done) | (simp; omega)) | ((simp only [List.setIfInBounds_toArray, List.set_cons_succ, List.set_cons_zero]); (with_reducible exact rfl)) | (with_reducible exact rfl) | (show (_ : Array Value) = _; exact rfl))); done)
      | (refine me_q (q' := m + b) ?_ ?_; omega; (repeat' (first | (with_reducible (first | assumption | exact Blk.alloc_new _ _ _ (by first | rfl | (simp; done) | omega) | apply Blk.drewN | apply Blk.drew | apply Blk.alloc_old | apply Blk.set_same | apply Blk.set_other)) | (show (_ : Nat) ≠ _; first | omega | (simp; done) | (simp; omega)) | ((simp only [List.setIfInBounds_toArray, List.set_cons_succ, List.set_cons_zero]); (with_reducible exact rfl)) | (with_reducible exact rfl) | (show (_ : Array Value) = _; exact rfl))); done)
      | (refine me_q (q' := 1099511627776) ?_ ?_; omega; (repeat' (first | (with_reducible (first | assumption | exact Blk.alloc_new _ _ _ (by first | rfl | (simp; done) | omega) | apply Blk.drewN | apply Blk.drew | apply Blk.alloc_old | apply Blk.set_same | apply Blk.set_other)) | (show (_ : Nat) ≠ _; first | omega | (simp; done) | (simp; omega)) | ((simp only [List.setIfInBounds_toArray, List.set_cons_succ, List.set_cons_zero]); (with_reducible exact rfl)) | (with_reducible exact rfl) | (show (_ : Array Value) = _; exact rfl))); done)
set_option maxHeartbeats 2000000 in
theorem rmAdd_len (wd s a n o at_ to b : Int) (w : World) (hb : b < 0) :
    Calls Try.prog 18 #[.agg #[.int .u64 (wd), .int .i64 (s), .int .u64 (a), .int .u64 (n), .int .u64 (o)], .int .u64 at_, .int .i64 b] w fun e w' => e = .returned (.tuple #[.agg #[.int .u64 (wd), .int .i64 (s), .int .u64 (a), .int .u64 (n), .int .u64 (o)], .int .i64 26]) ∧ Below w.heap.size w w' := by
  have d1 : decide (b < 0) = true := decide_eq_true hb
  go_enter Try.func18, Try.ntmps18
  go_wp2
  refine bp_forget (fun v => Below w.heap.size w v ∧ Blk v (w.heap.size + 1) #[.int .u64 (wd), .int .i64 (s), .int .u64 (a), .int .u64 (n), .int .u64 (o)] 31) ⟨by (repeat' (first | (with_reducible (first | exact Below.refl _ _ | assumption | refine below_drewN ?_ _ | refine Below.drew ?_ | refine Below.alloc ?_ ?_ _ | refine Below.setCell ?_ ?_ _)) | go_size)), by (repeat' (first | (with_reducible (first | assumption | exact Blk.alloc_new _ _ _ (by first | rfl | (simp; done) | omega) | apply Blk.drewN | apply Blk.drew | apply Blk.alloc_old | apply Blk.set_same | apply Blk.set_other)) | (show (_ : Nat) ≠ _; first | omega | (simp; done) | (simp; omega)) | ((simp only [List.setIfInBounds_toArray, List.set_cons_succ, List.set_cons_zero]); (with_reducible exact rfl)) | (with_reducible exact rfl) | (show (_ : Array Value) = _; exact rfl)))⟩ ?_
  rintro v ⟨gv, Bv⟩
  have cv := Bv.cell
  refine bodyPost_ret (v := .tuple #[.agg #[.int .u64 (wd), .int .i64 (s), .int .u64 (a), .int .u64 (n), .int .u64 (o)], .int .i64 26]) (by simp [results, Try.results18, go_sem, cv]) rfl ⟨rfl, gv⟩
set_option maxHeartbeats 2000000 in
theorem rmAdd_bad (wd s a n o at_ to b : Int) (w : World) (hw : 1 ≤ wd) (hat : 0 ≤ at_ ∧ at_ ≤ 18446744073709551615) (hto : at_ / wd = to) (hb : 0 ≤ b) (h : to < n ∨ 4611686018427387904 < at_) :
    Calls Try.prog 18 #[.agg #[.int .u64 (wd), .int .i64 (s), .int .u64 (a), .int .u64 (n), .int .u64 (o)], .int .u64 at_, .int .i64 b] w fun e w' => e = .returned (.tuple #[.agg #[.int .u64 (wd), .int .i64 (s), .int .u64 (a), .int .u64 (n), .int .u64 (o)], .int .i64 27]) ∧ Below w.heap.size w w' := by
  have d1 : decide (b < 0) = false := decide_eq_false (by omega)
  go_enter Try.func18, Try.ntmps18
  go_wp2_with fail
  refine (rmBad wd s a n o _ at_ to true hw hat hto (decide_eq_true h)).mono ?_
  rintro e w1 ⟨rfl, hb1⟩
  have A1 : Blk w1 (w.heap.size) #[.int .u64 (wd), .int .i64 (s), .int .u64 (a), .int .u64 (n), .int .u64 (o)] 31 := Blk.below (by (repeat' (first | (with_reducible (first | assumption | exact Blk.alloc_new _ _ _ (by first | rfl | (simp; done) | omega) | apply Blk.drewN | apply Blk.drew | apply Blk.alloc_old | apply Blk.set_same | apply Blk.set_other)) | (show (_ : Nat) ≠ _; first | omega | (simp; done) | (simp; omega)) | ((simp only [List.setIfInBounds_toArray, List.set_cons_succ, List.set_cons_zero]); (with_reducible exact rfl)) | (with_reducible exact rfl) | (show (_ : Array Value) = _; exact rfl)))) hb1 (by first | (simp; done) | omega | (simp; omega))
  have R1 : Blk w1 (w.heap.size + 1) #[.int .u64 0, .int .i64 0, .int .u64 0, .int .u64 0, .int .u64 0] 31 := Blk.below (by (repeat' (first | (with_reducible (first | assumption | exact Blk.alloc_new _ _ _ (by first | rfl | (simp; done) | omega) | apply Blk.drewN | apply Blk.drew | apply Blk.alloc_old | apply Blk.set_same | apply Blk.set_other)) | (show (_ : Nat) ≠ _; first | omega | (simp; done) | (simp; omega)) | ((simp only [List.setIfInBounds_toArray, List.set_cons_succ, List.set_cons_zero]); (with_reducible exact rfl)) | (with_reducible exact rfl) | (show (_ : Array Value) = _; exact rfl)))) hb1 (by first | (simp; done) | omega | (simp; omega))
  have g1 : Below w.heap.size w w1 := by refine Below.trans ?_ (hb1.mono ?_) <;> (repeat' (first | (with_reducible (first | exact Below.refl _ _ | assumption | refine below_drewN ?_ _ | refine Below.drew ?_ | refine Below.alloc ?_ ?_ _ | refine Below.setCell ?_ ?_ _)) | go_size))
  have hz1 := hb1.size
  (try simp at hz1)
  clear hb1
  replace cA := A1.cell
  replace fA := A1.frozen
  replace zA := A1.size
  replace cR := R1.cell
  replace fR := R1.frozen
  replace zR := R1.size
  go_wp2
  refine bp_forget (fun v => Below w.heap.size w v ∧ Blk v (w.heap.size + 1) #[.int .u64 (wd), .int .i64 (s), .int .u64 (a), .int .u64 (n), .int .u64 (o)] 31) ⟨by (repeat' (first | (with_reducible (first | exact Below.refl _ _ | assumption | refine below_drewN ?_ _ | refine Below.drew ?_ | refine Below.alloc ?_ ?_ _ | refine Below.setCell ?_ ?_ _)) | go_size)), by (repeat' (first | (with_reducible (first | assumption | exact Blk.alloc_new _ _ _ (by first | rfl | (simp; done) | omega) | apply Blk.drewN | apply Blk.drew | apply Blk.alloc_old | apply Blk.set_same | apply Blk.set_other)) | (show (_ : Nat) ≠ _; first | omega | (simp; done) | (simp; omega)) | ((simp only [List.setIfInBounds_toArray, List.set_cons_succ, List.set_cons_zero]); (with_reducible exact rfl)) | (with_reducible exact rfl) | (show (_ : Array Value) = _; exact rfl)))⟩ ?_
  rintro v ⟨gv, Bv⟩
  have cv := Bv.cell
  refine bodyPost_ret (v := .tuple #[.agg #[.int .u64 (wd), .int .i64 (s), .int .u64 (a), .int .u64 (n), .int .u64 (o)], .int .i64 27]) (by simp [results, Try.results18, go_sem, cv]) rfl ⟨rfl, gv⟩
set_option maxHeartbeats 2000000 in
theorem rmAdd_ok (wd s a n o at_ to b : Int) (w : World) (hw : 1 ≤ wd) (hat : 0 ≤ at_ ∧ at_ ≤ 18446744073709551615) (hto : at_ / wd = to) (h1 : at_ ≤ 4611686018427387904) (h2 : n ≤ to) (hn : 0 ≤ n) (hs : 0 ≤ s ∧ s ≤ 8) (ha : 0 ≤ a ∧ a ≤ 72057594037927936) (hb : 0 ≤ o ∧ o ≤ 1099511627776) (r q : Int) (hbb : 0 ≤ b ∧ b ≤ 9223372036854775807) (hr : mavg s a o n to = r) (hq : min (mopen o n to + b) 1099511627776 = q) :
    Calls Try.prog 18 #[.agg #[.int .u64 (wd), .int .i64 (s), .int .u64 (a), .int .u64 (n), .int .u64 (o)], .int .u64 at_, .int .i64 b] w fun e w' => e = .returned (.tuple #[.agg #[.int .u64 (wd), .int .i64 (s), .int .u64 (r), .int .u64 (to), .int .u64 (q)], .int .i64 0]) ∧ Below w.heap.size w w' := by
  subst hr
  have d1 : decide (b < 0) = false := decide_eq_false (by omega)
  have hm := mopen_rng (b := o) (num := n) (to := to) hb
  have ht := rmTurn wd s a n o
  obtain ⟨m, hmm⟩ : ∃ m, mopen o n to = m := ⟨_, rfl⟩
  rw [hmm] at hm hq
  have hwb : IntKind.u64.wrap b = b := IntWalk.u64_in _ ⟨by omega, by omega⟩
  go_enter Try.func18, Try.ntmps18
  go_wp2_with fail
  refine (rmBad wd s a n o _ at_ to false hw hat hto (decide_eq_false (by omega))).mono ?_
  rintro e w1 ⟨rfl, hb1⟩
  have A1 : Blk w1 (w.heap.size) #[.int .u64 (wd), .int .i64 (s), .int .u64 (a), .int .u64 (n), .int .u64 (o)] 31 := Blk.below (by (repeat' (first | (with_reducible (first | assumption | exact Blk.alloc_new _ _ _ (by first | rfl | (simp; done) | omega) | apply Blk.drewN | apply Blk.drew | apply Blk.alloc_old | apply Blk.set_same | apply Blk.set_other)) | (show (_ : Nat) ≠ _; first | omega | (simp; done) | (simp; omega)) | ((simp only [List.setIfInBounds_toArray, List.set_cons_succ, List.set_cons_zero]); (with_reducible exact rfl)) | (with_reducible exact rfl) | (show (_ : Array Value) = _; exact rfl)))) hb1 (by first | (simp; done) | omega | (simp; omega))
  have R1 : Blk w1 (w.heap.size + 1) #[.int .u64 0, .int .i64 0, .int .u64 0, .int .u64 0, .int .u64 0] 31 := Blk.below (by (repeat' (first | (with_reducible (first | assumption | exact Blk.alloc_new _ _ _ (by first | rfl | (simp; done) | omega) | apply Blk.drewN | apply Blk.drew | apply Blk.alloc_old | apply Blk.set_same | apply Blk.set_other)) | (show (_ : Nat) ≠ _; first | omega | (simp; done) | (simp; omega)) | ((simp only [List.setIfInBounds_toArray, List.set_cons_succ, List.set_cons_zero]); (with_reducible exact rfl)) | (with_reducible exact rfl) | (show (_ : Array Value) = _; exact rfl)))) hb1 (by first | (simp; done) | omega | (simp; omega))
  have g1 : Below w.heap.size w w1 := by refine Below.trans ?_ (hb1.mono ?_) <;> (repeat' (first | (with_reducible (first | exact Below.refl _ _ | assumption | refine below_drewN ?_ _ | refine Below.drew ?_ | refine Below.alloc ?_ ?_ _ | refine Below.setCell ?_ ?_ _)) | go_size))
  have hz1 := hb1.size
  (try simp at hz1)
  clear hb1
  replace cA := A1.cell
  replace fA := A1.frozen
  replace zA := A1.size
  replace cR := R1.cell
  replace fR := R1.frozen
  replace zR := R1.size
  go_wp2_with fail
  refine (rmTurn wd s a n o _ at_ to hw ⟨hat.1, h1⟩ hto h2 hn hs ha hb).mono ?_
  rintro e w2 ⟨rfl, hb2⟩
  have R2 : Blk w2 (w.heap.size + 1) #[.int .u64 0, .int .i64 0, .int .u64 0, .int .u64 0, .int .u64 0] 31 := Blk.below (by (repeat' (first | (with_reducible (first | assumption | exact Blk.alloc_new _ _ _ (by first | rfl | (simp; done) | omega) | apply Blk.drewN | apply Blk.drew | apply Blk.alloc_old | apply Blk.set_same | apply Blk.set_other)) | (show (_ : Nat) ≠ _; first | omega | (simp; done) | (simp; omega)) | ((simp only [List.setIfInBounds_toArray, List.set_cons_succ, List.set_cons_zero]); (with_reducible exact rfl)) | (with_reducible exact rfl) | (show (_ : Array Value) = _; exact rfl)))) hb2 (by first | (simp; done) | omega | (simp; omega))
  have g2 : Below w.heap.size w w2 := by refine Below.trans ?_ (hb2.mono ?_) <;> (repeat' (first | (with_reducible (first | exact Below.refl _ _ | assumption | refine below_drewN ?_ _ | refine Below.drew ?_ | refine Below.alloc ?_ ?_ _ | refine Below.setCell ?_ ?_ _)) | go_size))
  have hz2 := hb2.size
  (try simp at hz2)
  clear hb2
  replace cR := R2.cell
  replace fR := R2.frozen
  replace zR := R2.size
  rw [hmm]
  by_cases c : 1099511627776 < m + b
  · have d2 : decide (1099511627776 < m + b) = true := decide_eq_true c
    obtain rfl : q = 1099511627776 := by omega
    go_wp2
    refine bp_forget (fun v => Below w.heap.size w v ∧ Blk v (w.heap.size + 1) #[.int .u64 (wd), .int .i64 (s), .int .u64 (mavg s a o n to), .int .u64 (to), .int .u64 (1099511627776)] 31) ⟨by (repeat' (first | (with_reducible (first | exact Below.refl _ _ | assumption | refine below_drewN ?_ _ | refine Below.drew ?_ | refine Below.alloc ?_ ?_ _ | refine Below.setCell ?_ ?_ _)) | go_size)), by (repeat' (first | (with_reducible (first | assumption | exact Blk.alloc_new _ _ _ (by first | rfl | (simp; done) | omega) | apply Blk.drewN | apply Blk.drew | apply Blk.alloc_old | apply Blk.set_same | apply Blk.set_other)) | (show (_ : Nat) ≠ _; first | omega | (simp; done) | (simp; omega)) | ((simp only [List.setIfInBounds_toArray, List.set_cons_succ, List.set_cons_zero]); (with_reducible exact rfl)) | (with_reducible exact rfl) | (show (_ : Array Value) = _; exact rfl)))⟩ ?_
    rintro v ⟨gv, Bv⟩
    have cv := Bv.cell
    refine bodyPost_ret (v := .tuple #[.agg #[.int .u64 (wd), .int .i64 (s), .int .u64 (mavg s a o n to), .int .u64 (to), .int .u64 (1099511627776)], .int .i64 0]) (by simp [results, Try.results18, go_sem, cv]) rfl ⟨rfl, gv⟩
  · have d2 : decide (1099511627776 < m + b) = false := decide_eq_false c
    obtain rfl : q = m + b := by omega
    go_wp2
    refine bp_forget (fun v => Below w.heap.size w v ∧ Blk v (w.heap.size + 1) #[.int .u64 (wd), .int .i64 (s), .int .u64 (mavg s a o n to), .int .u64 (to), .int .u64 (m + b)] 31) ⟨by (repeat' (first | (with_reducible (first | exact Below.refl _ _ | assumption | refine below_drewN ?_ _ | refine Below.drew ?_ | refine Below.alloc ?_ ?_ _ | refine Below.setCell ?_ ?_ _)) | go_size)), by (repeat' (first | (with_reducible (first | assumption | exact Blk.alloc_new _ _ _ (by first | rfl | (simp; done) | omega) | apply Blk.drewN | apply Blk.drew | apply Blk.alloc_old | apply Blk.set_same | apply Blk.set_other)) | (show (_ : Nat) ≠ _; first | omega | (simp; done) | (simp; omega)) | ((simp only [List.setIfInBounds_toArray, List.set_cons_succ, List.set_cons_zero]); (with_reducible exact rfl)) | (with_reducible exact rfl) | (show (_ : Array Value) = _; exact rfl)))⟩ ?_
    rintro v ⟨gv, Bv⟩
    have cv := Bv.cell
    refine bodyPost_ret (v := .tuple #[.agg #[.int .u64 (wd), .int .i64 (s), .int .u64 (mavg s a o n to), .int .u64 (to), .int .u64 (m + b)], .int .i64 0]) (by simp [results, Try.results18, go_sem, cv]) rfl ⟨rfl, gv⟩
end Go.Proofs.Ytldahcfggeebgaa
