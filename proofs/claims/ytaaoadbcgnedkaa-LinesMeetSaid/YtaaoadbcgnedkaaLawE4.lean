/-
  The statement LinesMeet: the meeting of two runs of one curve is the lesser one of the two. Conditions: none.
-/
import Derived.Test.YtaaoadbcgnedkaaLawE4a
namespace Go.Proofs.Ytaaoadbcgnedkaa
open Go.ChangeShapes Go.WideShapes Go.ChangeAt Go.RowKit
open Go.Sort
set_option linter.unusedVariables false
set_option linter.unusedSimpArgs false
theorem wOfW (x v : Int) (w : World) (hx : x = v) (h0 : 0 ≤ v) (h1 : v ≤ 18446744073709551615) :
    Calls Try.prog 24 #[.int .u64 x] w fun e w' => e = .returned (wv v) ∧ Below w.heap.size w w' := by subst hx; exact wOf x w h0 h1
/-- Behind k rounds: what still lies there. -/
def MeetRel (w : World) (m d n xb yb : Int) (r s q : RN) (NZ NS NM : Nat) (i : Value) (wr : World) : Prop := ∃ k : Nat, k ≤ 6 ∧ i = .int .i64 k ∧ Below w.heap.size w wr ∧ Blk wr w.heap.size #[.int .u64 m, .int .u64 d, .int .u64 n] 24 ∧ Blk wr (w.heap.size + 1 + 1) #[.int .u64 xb, .int .u64 (hi (yb)), .int .u64 (lo (yb))] 28 ∧ Blk wr NZ #[.int .u64 r.f.X, .int .u64 (hi (r.f.Y)), .int .u64 (lo (r.f.Y)), .int .u64 r.f.M, .int .u64 r.t.X, .int .u64 (hi (r.t.Y)), .int .u64 (lo (r.t.Y)), .int .u64 r.t.M, .bool r.b] 40 ∧ Blk wr NS #[.int .u64 s.f.X, .int .u64 (hi (s.f.Y)), .int .u64 (lo (s.f.Y)), .int .u64 s.f.M, .int .u64 s.t.X, .int .u64 (hi (s.t.Y)), .int .u64 (lo (s.t.Y)), .int .u64 s.t.M, .bool s.b] 40 ∧ Blk wr NM #[.int .u64 q.f.X, .int .u64 (hi (q.f.Y)), .int .u64 (lo (q.f.Y)), .int .u64 q.f.M, .int .u64 q.t.X, .int .u64 (hi (q.t.Y)), .int .u64 (lo (q.t.Y)), .int .u64 q.t.M, .bool q.b] 40
theorem cube_in (k : Nat) (h : k ≤ 5) : (0 ≤ (k : Int) * k ∧ (k : Int) * k ≤ 25) ∧ (0 ≤ (k : Int) * k * k ∧ (k : Int) * k * k ≤ 125) := by
  have h0 : (0 : Int) ≤ (k : Int) := by omega
  have h5 : (k : Int) ≤ 5 := by omega
  have h1 := Int.mul_nonneg h0 h0
  have h2 := Int.mul_le_mul h5 h5 h0 (by omega)
  have h3 := Int.mul_nonneg h1 h0
  have h4 := Int.mul_le_mul (show (k : Int) * k ≤ 25 by omega) h5 h0 (by omega)
  omega
set_option maxRecDepth 100000 in
set_option maxHeartbeats 8000000 in
theorem LM_main (m d n xa ya xb yb c : Int) (r s q : RN) (w : World) (ha : (decide (xa < 4611686018427387904) && decide (hi ya < 1073741824)) = true) (hb : (decide (xb < 4611686018427387904) && decide (hi yb < 1073741824)) = true) (d1 : decide (xb < xa) = false) (hm : 0 ≤ m ∧ m ≤ 18446744073709551615) (hd : 0 ≤ d ∧ d ≤ 18446744073709551615) (hn : 0 ≤ n ∧ n ≤ 18446744073709551615) (hd2 : d ≤ 1048576) (hya : In128 ya) (hyb : In128 yb) (hyb2 : yb < 19807040628566084398385987584) (hc : cmp yb ya = c) (k0 : decide (c < 0) = false) (hk : (kd m d n != 0) = true)
    (hxa : 0 ≤ xa ∧ xa < 4611686018427387904) (hxb : 0 ≤ xb ∧ xb < 4611686018427387904) (hr : RN.start m d n xa ya = r) (or : r.ok) (hs : RN.start m d n xb yb = s) (os : s.ok) (hq : RN.meet r s = q) (oq : q.ok)
    (h1 : ∀ x, xb + d ≤ x → x ≤ 9223372036854775808 → q.at x = min (r.at x) (s.at x)) (h2 : ∀ W, yb < W → q.reach W = max (r.reach W) (s.reach W)) :
    Calls Try.prog 6 #[.agg #[.int .u64 m, .int .u64 d, .int .u64 n], .agg #[.int .u64 xa, .int .u64 (hi ya), .int .u64 (lo ya)], .agg #[.int .u64 xb, .int .u64 (hi yb), .int .u64 (lo yb)]] w fun e w' => e = .returned (.bool true) ∧ Below w.heap.size w w' := by
  have Hha := hide ha; have Hhb := hide hb; have Hhc := hide hc; have Hhk := hide hk; have Hhr := hide hr; have Hhs := hide hs; have Hhq := hide hq; have Hh1 := hide h1; have Hh2 := hide h2
  clear ha hb hc hk hr hs hq h1 h2
  go_enter Try.func6, Try.ntmps6
  go_wp2_with fail
  refine (small06 xa ya true _ Hha.out).mono ?_
  rintro e w1 ⟨rfl, hb1⟩
  have C1 : Blk w1 (w.heap.size) #[.int .u64 m, .int .u64 d, .int .u64 n] 24 := Blk.below (by (repeat' (first | (with_reducible (first | assumption | exact Blk.alloc_new _ _ _ (by first | rfl | (simp; done) | omega) | apply Blk.drewN | apply Blk.drew | apply Blk.alloc_old | apply Blk.set_same | apply Blk.set_other)) | (show (_ : Nat) ≠ _; first | omega | (simp; done) | (simp; omega)) | ((simp only [List.setIfInBounds_toArray, List.set_cons_succ, List.set_cons_zero]); (with_reducible exact rfl)) | (with_reducible exact rfl) | (show (_ : Array Value) = _; exact rfl)))) hb1 (by first | (simp; done) | omega | (simp; omega))
  have A1 : Blk w1 (w.heap.size + 1) #[.int .u64 xa, .int .u64 (hi (ya)), .int .u64 (lo (ya))] 28 := Blk.below (by (repeat' (first | (with_reducible (first | assumption | exact Blk.alloc_new _ _ _ (by first | rfl | (simp; done) | omega) | apply Blk.drewN | apply Blk.drew | apply Blk.alloc_old | apply Blk.set_same | apply Blk.set_other)) | (show (_ : Nat) ≠ _; first | omega | (simp; done) | (simp; omega)) | ((simp only [List.setIfInBounds_toArray, List.set_cons_succ, List.set_cons_zero]); (with_reducible exact rfl)) | (with_reducible exact rfl) | (show (_ : Array Value) = _; exact rfl)))) hb1 (by first | (simp; done) | omega | (simp; omega))
  have B1 : Blk w1 (w.heap.size + 1 + 1) #[.int .u64 xb, .int .u64 (hi (yb)), .int .u64 (lo (yb))] 28 := Blk.below (by (repeat' (first | (with_reducible (first | assumption | exact Blk.alloc_new _ _ _ (by first | rfl | (simp; done) | omega) | apply Blk.drewN | apply Blk.drew | apply Blk.alloc_old | apply Blk.set_same | apply Blk.set_other)) | (show (_ : Nat) ≠ _; first | omega | (simp; done) | (simp; omega)) | ((simp only [List.setIfInBounds_toArray, List.set_cons_succ, List.set_cons_zero]); (with_reducible exact rfl)) | (with_reducible exact rfl) | (show (_ : Array Value) = _; exact rfl)))) hb1 (by first | (simp; done) | omega | (simp; omega))
  have g1 : Below w.heap.size w w1 := by refine Below.trans ?_ (hb1.mono ?_) <;> (repeat' (first | (with_reducible (first | exact Below.refl _ _ | assumption | refine below_drewN ?_ _ | refine Below.drew ?_ | refine Below.alloc ?_ ?_ _ | refine Below.setCell ?_ ?_ _)) | go_size))
  have hz1 := hb1.size
  (try simp at hz1)
  clear hb1
  replace cC := C1.cell
  replace fC := C1.frozen
  replace zC := C1.size
  replace cA := A1.cell
  replace fA := A1.frozen
  replace zA := A1.size
  replace cB := B1.cell
  replace fB := B1.frozen
  replace zB := B1.size
  go_wp2_with fail
  refine (small06 xb yb true _ Hhb.out).mono ?_
  rintro e w2 ⟨rfl, hb2⟩
  have C2 : Blk w2 (w.heap.size) #[.int .u64 m, .int .u64 d, .int .u64 n] 24 := Blk.below (by (repeat' (first | (with_reducible (first | assumption | exact Blk.alloc_new _ _ _ (by first | rfl | (simp; done) | omega) | apply Blk.drewN | apply Blk.drew | apply Blk.alloc_old | apply Blk.set_same | apply Blk.set_other)) | (show (_ : Nat) ≠ _; first | omega | (simp; done) | (simp; omega)) | ((simp only [List.setIfInBounds_toArray, List.set_cons_succ, List.set_cons_zero]); (with_reducible exact rfl)) | (with_reducible exact rfl) | (show (_ : Array Value) = _; exact rfl)))) hb2 (by first | (simp; done) | omega | (simp; omega))
  have A2 : Blk w2 (w.heap.size + 1) #[.int .u64 xa, .int .u64 (hi (ya)), .int .u64 (lo (ya))] 28 := Blk.below (by (repeat' (first | (with_reducible (first | assumption | exact Blk.alloc_new _ _ _ (by first | rfl | (simp; done) | omega) | apply Blk.drewN | apply Blk.drew | apply Blk.alloc_old | apply Blk.set_same | apply Blk.set_other)) | (show (_ : Nat) ≠ _; first | omega | (simp; done) | (simp; omega)) | ((simp only [List.setIfInBounds_toArray, List.set_cons_succ, List.set_cons_zero]); (with_reducible exact rfl)) | (with_reducible exact rfl) | (show (_ : Array Value) = _; exact rfl)))) hb2 (by first | (simp; done) | omega | (simp; omega))
  have B2 : Blk w2 (w.heap.size + 1 + 1) #[.int .u64 xb, .int .u64 (hi (yb)), .int .u64 (lo (yb))] 28 := Blk.below (by (repeat' (first | (with_reducible (first | assumption | exact Blk.alloc_new _ _ _ (by first | rfl | (simp; done) | omega) | apply Blk.drewN | apply Blk.drew | apply Blk.alloc_old | apply Blk.set_same | apply Blk.set_other)) | (show (_ : Nat) ≠ _; first | omega | (simp; done) | (simp; omega)) | ((simp only [List.setIfInBounds_toArray, List.set_cons_succ, List.set_cons_zero]); (with_reducible exact rfl)) | (with_reducible exact rfl) | (show (_ : Array Value) = _; exact rfl)))) hb2 (by first | (simp; done) | omega | (simp; omega))
  have g2 : Below w.heap.size w w2 := by refine Below.trans ?_ (hb2.mono ?_) <;> (repeat' (first | (with_reducible (first | exact Below.refl _ _ | assumption | refine below_drewN ?_ _ | refine Below.drew ?_ | refine Below.alloc ?_ ?_ _ | refine Below.setCell ?_ ?_ _)) | go_size))
  have hz2 := hb2.size
  (try simp at hz2)
  clear hb2
  replace cC := C2.cell
  replace fC := C2.frozen
  replace zC := C2.size
  replace cA := A2.cell
  replace fA := A2.frozen
  replace zA := A2.size
  replace cB := B2.cell
  replace fB := B2.frozen
  replace zB := B2.size
  go_wp2_with fail
  refine (wcmpC yb ya c _ hyb hya Hhc.out).mono ?_
  rintro e w3 ⟨rfl, hb3⟩
  have C3 : Blk w3 (w.heap.size) #[.int .u64 m, .int .u64 d, .int .u64 n] 24 := Blk.below (by (repeat' (first | (with_reducible (first | assumption | exact Blk.alloc_new _ _ _ (by first | rfl | (simp; done) | omega) | apply Blk.drewN | apply Blk.drew | apply Blk.alloc_old | apply Blk.set_same | apply Blk.set_other)) | (show (_ : Nat) ≠ _; first | omega | (simp; done) | (simp; omega)) | ((simp only [List.setIfInBounds_toArray, List.set_cons_succ, List.set_cons_zero]); (with_reducible exact rfl)) | (with_reducible exact rfl) | (show (_ : Array Value) = _; exact rfl)))) hb3 (by first | (simp; done) | omega | (simp; omega))
  have A3 : Blk w3 (w.heap.size + 1) #[.int .u64 xa, .int .u64 (hi (ya)), .int .u64 (lo (ya))] 28 := Blk.below (by (repeat' (first | (with_reducible (first | assumption | exact Blk.alloc_new _ _ _ (by first | rfl | (simp; done) | omega) | apply Blk.drewN | apply Blk.drew | apply Blk.alloc_old | apply Blk.set_same | apply Blk.set_other)) | (show (_ : Nat) ≠ _; first | omega | (simp; done) | (simp; omega)) | ((simp only [List.setIfInBounds_toArray, List.set_cons_succ, List.set_cons_zero]); (with_reducible exact rfl)) | (with_reducible exact rfl) | (show (_ : Array Value) = _; exact rfl)))) hb3 (by first | (simp; done) | omega | (simp; omega))
  have B3 : Blk w3 (w.heap.size + 1 + 1) #[.int .u64 xb, .int .u64 (hi (yb)), .int .u64 (lo (yb))] 28 := Blk.below (by (repeat' (first | (with_reducible (first | assumption | exact Blk.alloc_new _ _ _ (by first | rfl | (simp; done) | omega) | apply Blk.drewN | apply Blk.drew | apply Blk.alloc_old | apply Blk.set_same | apply Blk.set_other)) | (show (_ : Nat) ≠ _; first | omega | (simp; done) | (simp; omega)) | ((simp only [List.setIfInBounds_toArray, List.set_cons_succ, List.set_cons_zero]); (with_reducible exact rfl)) | (with_reducible exact rfl) | (show (_ : Array Value) = _; exact rfl)))) hb3 (by first | (simp; done) | omega | (simp; omega))
  have g3 : Below w.heap.size w w3 := by refine Below.trans ?_ (hb3.mono ?_) <;> (repeat' (first | (with_reducible (first | exact Below.refl _ _ | assumption | refine below_drewN ?_ _ | refine Below.drew ?_ | refine Below.alloc ?_ ?_ _ | refine Below.setCell ?_ ?_ _)) | go_size))
  have hz3 := hb3.size
  (try simp at hz3)
  clear hb3
  replace cC := C3.cell
  replace fC := C3.frozen
  replace zC := C3.size
  replace cA := A3.cell
  replace fA := A3.frozen
  replace zA := A3.size
  replace cB := B3.cell
  replace fB := B3.frozen
  replace zB := B3.size
  go_wp2_with fail
  refine (crightC m d n _ ⟨hm.1, hd.1, hn.1⟩ true Hhk.out).mono ?_
  rintro e w4 ⟨rfl, hb4⟩
  have C4 : Blk w4 (w.heap.size) #[.int .u64 m, .int .u64 d, .int .u64 n] 24 := Blk.below (by (repeat' (first | (with_reducible (first | assumption | exact Blk.alloc_new _ _ _ (by first | rfl | (simp; done) | omega) | apply Blk.drewN | apply Blk.drew | apply Blk.alloc_old | apply Blk.set_same | apply Blk.set_other)) | (show (_ : Nat) ≠ _; first | omega | (simp; done) | (simp; omega)) | ((simp only [List.setIfInBounds_toArray, List.set_cons_succ, List.set_cons_zero]); (with_reducible exact rfl)) | (with_reducible exact rfl) | (show (_ : Array Value) = _; exact rfl)))) hb4 (by first | (simp; done) | omega | (simp; omega))
  have A4 : Blk w4 (w.heap.size + 1) #[.int .u64 xa, .int .u64 (hi (ya)), .int .u64 (lo (ya))] 28 := Blk.below (by (repeat' (first | (with_reducible (first | assumption | exact Blk.alloc_new _ _ _ (by first | rfl | (simp; done) | omega) | apply Blk.drewN | apply Blk.drew | apply Blk.alloc_old | apply Blk.set_same | apply Blk.set_other)) | (show (_ : Nat) ≠ _; first | omega | (simp; done) | (simp; omega)) | ((simp only [List.setIfInBounds_toArray, List.set_cons_succ, List.set_cons_zero]); (with_reducible exact rfl)) | (with_reducible exact rfl) | (show (_ : Array Value) = _; exact rfl)))) hb4 (by first | (simp; done) | omega | (simp; omega))
  have B4 : Blk w4 (w.heap.size + 1 + 1) #[.int .u64 xb, .int .u64 (hi (yb)), .int .u64 (lo (yb))] 28 := Blk.below (by (repeat' (first | (with_reducible (first | assumption | exact Blk.alloc_new _ _ _ (by first | rfl | (simp; done) | omega) | apply Blk.drewN | apply Blk.drew | apply Blk.alloc_old | apply Blk.set_same | apply Blk.set_other)) | (show (_ : Nat) ≠ _; first | omega | (simp; done) | (simp; omega)) | ((simp only [List.setIfInBounds_toArray, List.set_cons_succ, List.set_cons_zero]); (with_reducible exact rfl)) | (with_reducible exact rfl) | (show (_ : Array Value) = _; exact rfl)))) hb4 (by first | (simp; done) | omega | (simp; omega))
  have g4 : Below w.heap.size w w4 := by refine Below.trans ?_ (hb4.mono ?_) <;> (repeat' (first | (with_reducible (first | exact Below.refl _ _ | assumption | refine below_drewN ?_ _ | refine Below.drew ?_ | refine Below.alloc ?_ ?_ _ | refine Below.setCell ?_ ?_ _)) | go_size))
  have hz4 := hb4.size
  (try simp at hz4)
  clear hb4
  replace cC := C4.cell
  replace fC := C4.frozen
  replace zC := C4.size
  replace cA := A4.cell
  replace fA := A4.frozen
  replace zA := A4.size
  replace cB := B4.cell
  replace fB := B4.frozen
  replace zB := B4.size
  go_wp2_with fail
  refine (start_any m d n xa ya r _ hm hd hn (by omega) hya Hhr.out).mono ?_
  rintro e w5 ⟨rfl, hb5⟩
  have C5 : Blk w5 (w.heap.size) #[.int .u64 m, .int .u64 d, .int .u64 n] 24 := Blk.below (by (repeat' (first | (with_reducible (first | assumption | exact Blk.alloc_new _ _ _ (by first | rfl | (simp; done) | omega) | apply Blk.drewN | apply Blk.drew | apply Blk.alloc_old | apply Blk.set_same | apply Blk.set_other)) | (show (_ : Nat) ≠ _; first | omega | (simp; done) | (simp; omega)) | ((simp only [List.setIfInBounds_toArray, List.set_cons_succ, List.set_cons_zero]); (with_reducible exact rfl)) | (with_reducible exact rfl) | (show (_ : Array Value) = _; exact rfl)))) hb5 (by first | (simp; done) | omega | (simp; omega))
  have A5 : Blk w5 (w.heap.size + 1) #[.int .u64 xa, .int .u64 (hi (ya)), .int .u64 (lo (ya))] 28 := Blk.below (by (repeat' (first | (with_reducible (first | assumption | exact Blk.alloc_new _ _ _ (by first | rfl | (simp; done) | omega) | apply Blk.drewN | apply Blk.drew | apply Blk.alloc_old | apply Blk.set_same | apply Blk.set_other)) | (show (_ : Nat) ≠ _; first | omega | (simp; done) | (simp; omega)) | ((simp only [List.setIfInBounds_toArray, List.set_cons_succ, List.set_cons_zero]); (with_reducible exact rfl)) | (with_reducible exact rfl) | (show (_ : Array Value) = _; exact rfl)))) hb5 (by first | (simp; done) | omega | (simp; omega))
  have B5 : Blk w5 (w.heap.size + 1 + 1) #[.int .u64 xb, .int .u64 (hi (yb)), .int .u64 (lo (yb))] 28 := Blk.below (by (repeat' (first | (with_reducible (first | assumption | exact Blk.alloc_new _ _ _ (by first | rfl | (simp; done) | omega) | apply Blk.drewN | apply Blk.drew | apply Blk.alloc_old | apply Blk.set_same | apply Blk.set_other)) | (show (_ : Nat) ≠ _; first | omega | (simp; done) | (simp; omega)) | ((simp only [List.setIfInBounds_toArray, List.set_cons_succ, List.set_cons_zero]); (with_reducible exact rfl)) | (with_reducible exact rfl) | (show (_ : Array Value) = _; exact rfl)))) hb5 (by first | (simp; done) | omega | (simp; omega))
  have g5 : Below w.heap.size w w5 := by refine Below.trans ?_ (hb5.mono ?_) <;> (repeat' (first | (with_reducible (first | exact Below.refl _ _ | assumption | refine below_drewN ?_ _ | refine Below.drew ?_ | refine Below.alloc ?_ ?_ _ | refine Below.setCell ?_ ?_ _)) | go_size))
  have hz5 := hb5.size
  (try simp at hz5)
  clear hb5
  replace cC := C5.cell
  replace fC := C5.frozen
  replace zC := C5.size
  replace cA := A5.cell
  replace fA := A5.frozen
  replace zA := A5.size
  replace cB := B5.cell
  replace fB := B5.frozen
  replace zB := B5.size
  go_wp2_with fail
  refine (start_any m d n xb yb s _ hm hd hn (by omega) hyb Hhs.out).mono ?_
  rintro e w6 ⟨rfl, hb6⟩
  have C6 : Blk w6 (w.heap.size) #[.int .u64 m, .int .u64 d, .int .u64 n] 24 := Blk.below (by (repeat' (first | (with_reducible (first | assumption | exact Blk.alloc_new _ _ _ (by first | rfl | (simp; done) | omega) | apply Blk.drewN | apply Blk.drew | apply Blk.alloc_old | apply Blk.set_same | apply Blk.set_other)) | (show (_ : Nat) ≠ _; first | omega | (simp; done) | (simp; omega)) | ((simp only [List.setIfInBounds_toArray, List.set_cons_succ, List.set_cons_zero]); (with_reducible exact rfl)) | (with_reducible exact rfl) | (show (_ : Array Value) = _; exact rfl)))) hb6 (by first | (simp; done) | omega | (simp; omega))
  have B6 : Blk w6 (w.heap.size + 1 + 1) #[.int .u64 xb, .int .u64 (hi (yb)), .int .u64 (lo (yb))] 28 := Blk.below (by (repeat' (first | (with_reducible (first | assumption | exact Blk.alloc_new _ _ _ (by first | rfl | (simp; done) | omega) | apply Blk.drewN | apply Blk.drew | apply Blk.alloc_old | apply Blk.set_same | apply Blk.set_other)) | (show (_ : Nat) ≠ _; first | omega | (simp; done) | (simp; omega)) | ((simp only [List.setIfInBounds_toArray, List.set_cons_succ, List.set_cons_zero]); (with_reducible exact rfl)) | (with_reducible exact rfl) | (show (_ : Array Value) = _; exact rfl)))) hb6 (by first | (simp; done) | omega | (simp; omega))
  have Z6 : Blk w6 (w5.heap.size) #[.int .u64 r.f.X, .int .u64 (hi (r.f.Y)), .int .u64 (lo (r.f.Y)), .int .u64 r.f.M, .int .u64 r.t.X, .int .u64 (hi (r.t.Y)), .int .u64 (lo (r.t.Y)), .int .u64 r.t.M, .bool r.b] 40 := Blk.below (by (repeat' (first | (with_reducible (first | assumption | exact Blk.alloc_new _ _ _ (by first | rfl | (simp; done) | omega) | apply Blk.drewN | apply Blk.drew | apply Blk.alloc_old | apply Blk.set_same | apply Blk.set_other)) | (show (_ : Nat) ≠ _; first | omega | (simp; done) | (simp; omega)) | ((simp only [List.setIfInBounds_toArray, List.set_cons_succ, List.set_cons_zero]); (with_reducible exact rfl)) | (with_reducible exact rfl) | (show (_ : Array Value) = _; exact rfl)))) hb6 (by first | (simp; done) | omega | (simp; omega))
  have g6 : Below w.heap.size w w6 := by refine Below.trans ?_ (hb6.mono ?_) <;> (repeat' (first | (with_reducible (first | exact Below.refl _ _ | assumption | refine below_drewN ?_ _ | refine Below.drew ?_ | refine Below.alloc ?_ ?_ _ | refine Below.setCell ?_ ?_ _)) | go_size))
  have hz6 := hb6.size
  (try simp at hz6)
  clear hb6
  replace cC := C6.cell
  replace fC := C6.frozen
  replace zC := C6.size
  replace cB := B6.cell
  replace fB := B6.frozen
  replace zB := B6.size
  have cZ := Z6.cell
  have fZ := Z6.frozen
  have zZ := Z6.size
  go_wp2_with fail
  refine (meet_any r s q _ or os Hhq.out).mono ?_
  rintro e w7 ⟨rfl, hb7⟩
  have C7 : Blk w7 (w.heap.size) #[.int .u64 m, .int .u64 d, .int .u64 n] 24 := Blk.below (by (repeat' (first | (with_reducible (first | assumption | exact Blk.alloc_new _ _ _ (by first | rfl | (simp; done) | omega) | apply Blk.drewN | apply Blk.drew | apply Blk.alloc_old | apply Blk.set_same | apply Blk.set_other)) | (show (_ : Nat) ≠ _; first | omega | (simp; done) | (simp; omega)) | ((simp only [List.setIfInBounds_toArray, List.set_cons_succ, List.set_cons_zero]); (with_reducible exact rfl)) | (with_reducible exact rfl) | (show (_ : Array Value) = _; exact rfl)))) hb7 (by first | (simp; done) | omega | (simp; omega))
  have B7 : Blk w7 (w.heap.size + 1 + 1) #[.int .u64 xb, .int .u64 (hi (yb)), .int .u64 (lo (yb))] 28 := Blk.below (by (repeat' (first | (with_reducible (first | assumption | exact Blk.alloc_new _ _ _ (by first | rfl | (simp; done) | omega) | apply Blk.drewN | apply Blk.drew | apply Blk.alloc_old | apply Blk.set_same | apply Blk.set_other)) | (show (_ : Nat) ≠ _; first | omega | (simp; done) | (simp; omega)) | ((simp only [List.setIfInBounds_toArray, List.set_cons_succ, List.set_cons_zero]); (with_reducible exact rfl)) | (with_reducible exact rfl) | (show (_ : Array Value) = _; exact rfl)))) hb7 (by first | (simp; done) | omega | (simp; omega))
  have Z7 : Blk w7 (w5.heap.size) #[.int .u64 r.f.X, .int .u64 (hi (r.f.Y)), .int .u64 (lo (r.f.Y)), .int .u64 r.f.M, .int .u64 r.t.X, .int .u64 (hi (r.t.Y)), .int .u64 (lo (r.t.Y)), .int .u64 r.t.M, .bool r.b] 40 := Blk.below (by (repeat' (first | (with_reducible (first | assumption | exact Blk.alloc_new _ _ _ (by first | rfl | (simp; done) | omega) | apply Blk.drewN | apply Blk.drew | apply Blk.alloc_old | apply Blk.set_same | apply Blk.set_other)) | (show (_ : Nat) ≠ _; first | omega | (simp; done) | (simp; omega)) | ((simp only [List.setIfInBounds_toArray, List.set_cons_succ, List.set_cons_zero]); (with_reducible exact rfl)) | (with_reducible exact rfl) | (show (_ : Array Value) = _; exact rfl)))) hb7 (by first | (simp; done) | omega | (simp; omega))
  have S7 : Blk w7 (w6.heap.size) #[.int .u64 s.f.X, .int .u64 (hi (s.f.Y)), .int .u64 (lo (s.f.Y)), .int .u64 s.f.M, .int .u64 s.t.X, .int .u64 (hi (s.t.Y)), .int .u64 (lo (s.t.Y)), .int .u64 s.t.M, .bool s.b] 40 := Blk.below (by (repeat' (first | (with_reducible (first | assumption | exact Blk.alloc_new _ _ _ (by first | rfl | (simp; done) | omega) | apply Blk.drewN | apply Blk.drew | apply Blk.alloc_old | apply Blk.set_same | apply Blk.set_other)) | (show (_ : Nat) ≠ _; first | omega | (simp; done) | (simp; omega)) | ((simp only [List.setIfInBounds_toArray, List.set_cons_succ, List.set_cons_zero]); (with_reducible exact rfl)) | (with_reducible exact rfl) | (show (_ : Array Value) = _; exact rfl)))) hb7 (by first | (simp; done) | omega | (simp; omega))
  have g7 : Below w.heap.size w w7 := by refine Below.trans ?_ (hb7.mono ?_) <;> (repeat' (first | (with_reducible (first | exact Below.refl _ _ | assumption | refine below_drewN ?_ _ | refine Below.drew ?_ | refine Below.alloc ?_ ?_ _ | refine Below.setCell ?_ ?_ _)) | go_size))
  have hz7 := hb7.size
  (try simp at hz7)
  clear hb7
  replace cC := C7.cell
  replace fC := C7.frozen
  replace zC := C7.size
  replace cB := B7.cell
  replace fB := B7.frozen
  replace zB := B7.size
  replace cZ := Z7.cell
  replace fZ := Z7.frozen
  replace zZ := Z7.size
  have cS := S7.cell
  have fS := S7.frozen
  have zS := S7.size
  go_wp2
  refine wp_forget (fun v => Below w.heap.size w v ∧ Blk v (w.heap.size) #[.int .u64 m, .int .u64 d, .int .u64 n] 24 ∧ Blk v (w.heap.size + 1 + 1) #[.int .u64 xb, .int .u64 (hi (yb)), .int .u64 (lo (yb))] 28 ∧ Blk v (w5.heap.size) #[.int .u64 r.f.X, .int .u64 (hi (r.f.Y)), .int .u64 (lo (r.f.Y)), .int .u64 r.f.M, .int .u64 r.t.X, .int .u64 (hi (r.t.Y)), .int .u64 (lo (r.t.Y)), .int .u64 r.t.M, .bool r.b] 40 ∧ Blk v (w6.heap.size) #[.int .u64 s.f.X, .int .u64 (hi (s.f.Y)), .int .u64 (lo (s.f.Y)), .int .u64 s.f.M, .int .u64 s.t.X, .int .u64 (hi (s.t.Y)), .int .u64 (lo (s.t.Y)), .int .u64 s.t.M, .bool s.b] 40 ∧ Blk v (w7.heap.size) #[.int .u64 q.f.X, .int .u64 (hi (q.f.Y)), .int .u64 (lo (q.f.Y)), .int .u64 q.f.M, .int .u64 q.t.X, .int .u64 (hi (q.t.Y)), .int .u64 (lo (q.t.Y)), .int .u64 q.t.M, .bool q.b] 40) ⟨by (repeat' (first | (with_reducible (first | exact Below.refl _ _ | assumption | refine below_drewN ?_ _ | refine Below.drew ?_ | refine Below.alloc ?_ ?_ _ | refine Below.setCell ?_ ?_ _)) | go_size)), by (repeat' (first | (with_reducible (first | assumption | exact Blk.alloc_new _ _ _ (by first | rfl | (simp; done) | omega) | apply Blk.drewN | apply Blk.drew | apply Blk.alloc_old | apply Blk.set_same | apply Blk.set_other)) | (show (_ : Nat) ≠ _; first | omega | (simp; done) | (simp; omega)) | ((simp only [List.setIfInBounds_toArray, List.set_cons_succ, List.set_cons_zero]); (with_reducible exact rfl)) | (with_reducible exact rfl) | (show (_ : Array Value) = _; exact rfl))), by (repeat' (first | (with_reducible (first | assumption | exact Blk.alloc_new _ _ _ (by first | rfl | (simp; done) | omega) | apply Blk.drewN | apply Blk.drew | apply Blk.alloc_old | apply Blk.set_same | apply Blk.set_other)) | (show (_ : Nat) ≠ _; first | omega | (simp; done) | (simp; omega)) | ((simp only [List.setIfInBounds_toArray, List.set_cons_succ, List.set_cons_zero]); (with_reducible exact rfl)) | (with_reducible exact rfl) | (show (_ : Array Value) = _; exact rfl))), by (repeat' (first | (with_reducible (first | assumption | exact Blk.alloc_new _ _ _ (by first | rfl | (simp; done) | omega) | apply Blk.drewN | apply Blk.drew | apply Blk.alloc_old | apply Blk.set_same | apply Blk.set_other)) | (show (_ : Nat) ≠ _; first | omega | (simp; done) | (simp; omega)) | ((simp only [List.setIfInBounds_toArray, List.set_cons_succ, List.set_cons_zero]); (with_reducible exact rfl)) | (with_reducible exact rfl) | (show (_ : Array Value) = _; exact rfl))), by (repeat' (first | (with_reducible (first | assumption | exact Blk.alloc_new _ _ _ (by first | rfl | (simp; done) | omega) | apply Blk.drewN | apply Blk.drew | apply Blk.alloc_old | apply Blk.set_same | apply Blk.set_other)) | (show (_ : Nat) ≠ _; first | omega | (simp; done) | (simp; omega)) | ((simp only [List.setIfInBounds_toArray, List.set_cons_succ, List.set_cons_zero]); (with_reducible exact rfl)) | (with_reducible exact rfl) | (show (_ : Array Value) = _; exact rfl))), by (repeat' (first | (with_reducible (first | assumption | exact Blk.alloc_new _ _ _ (by first | rfl | (simp; done) | omega) | apply Blk.drewN | apply Blk.drew | apply Blk.alloc_old | apply Blk.set_same | apply Blk.set_other)) | (show (_ : Nat) ≠ _; first | omega | (simp; done) | (simp; omega)) | ((simp only [List.setIfInBounds_toArray, List.set_cons_succ, List.set_cons_zero]); (with_reducible exact rfl)) | (with_reducible exact rfl) | (show (_ : Array Value) = _; exact rfl)))⟩ ?_
  rintro w8 ⟨g8, C8, B8, Z8, S8, M8⟩
  have hz8 := g8.size
  replace cC := C8.cell
  replace fC := C8.frozen
  replace zC := C8.size
  replace cB := B8.cell
  replace fB := B8.frozen
  replace zB := B8.size
  replace cZ := Z8.cell
  replace fZ := Z8.frozen
  replace zZ := Z8.size
  replace cS := S8.cell
  replace fS := S8.frozen
  replace zS := S8.size
  have cM := M8.cell
  have fM := M8.frozen
  have zM := M8.size
  go_loopw [59] (fun i wr => MeetRel w m d n xb yb r s q w5.heap.size w6.heap.size w7.heap.size i wr) (fun i _ => 6 - (intOf i).toNat)
  case atStart => exact ⟨0, by omega, rfl, by (repeat' (first | (with_reducible (first | exact Below.refl _ _ | assumption | refine below_drewN ?_ _ | refine Below.drew ?_ | refine Below.alloc ?_ ?_ _ | refine Below.setCell ?_ ?_ _)) | go_size)), by (repeat' (first | (with_reducible (first | assumption | exact Blk.alloc_new _ _ _ (by first | rfl | (simp; done) | omega) | apply Blk.drewN | apply Blk.drew | apply Blk.alloc_old | apply Blk.set_same | apply Blk.set_other)) | (show (_ : Nat) ≠ _; first | omega | (simp; done) | (simp; omega)) | ((simp only [List.setIfInBounds_toArray, List.set_cons_succ, List.set_cons_zero]); (with_reducible exact rfl)) | (with_reducible exact rfl) | (show (_ : Array Value) = _; exact rfl))), by (repeat' (first | (with_reducible (first | assumption | exact Blk.alloc_new _ _ _ (by first | rfl | (simp; done) | omega) | apply Blk.drewN | apply Blk.drew | apply Blk.alloc_old | apply Blk.set_same | apply Blk.set_other)) | (show (_ : Nat) ≠ _; first | omega | (simp; done) | (simp; omega)) | ((simp only [List.setIfInBounds_toArray, List.set_cons_succ, List.set_cons_zero]); (with_reducible exact rfl)) | (with_reducible exact rfl) | (show (_ : Array Value) = _; exact rfl))), by (repeat' (first | (with_reducible (first | assumption | exact Blk.alloc_new _ _ _ (by first | rfl | (simp; done) | omega) | apply Blk.drewN | apply Blk.drew | apply Blk.alloc_old | apply Blk.set_same | apply Blk.set_other)) | (show (_ : Nat) ≠ _; first | omega | (simp; done) | (simp; omega)) | ((simp only [List.setIfInBounds_toArray, List.set_cons_succ, List.set_cons_zero]); (with_reducible exact rfl)) | (with_reducible exact rfl) | (show (_ : Array Value) = _; exact rfl))), by (repeat' (first | (with_reducible (first | assumption | exact Blk.alloc_new _ _ _ (by first | rfl | (simp; done) | omega) | apply Blk.drewN | apply Blk.drew | apply Blk.alloc_old | apply Blk.set_same | apply Blk.set_other)) | (show (_ : Nat) ≠ _; first | omega | (simp; done) | (simp; omega)) | ((simp only [List.setIfInBounds_toArray, List.set_cons_succ, List.set_cons_zero]); (with_reducible exact rfl)) | (with_reducible exact rfl) | (show (_ : Array Value) = _; exact rfl))), by (repeat' (first | (with_reducible (first | assumption | exact Blk.alloc_new _ _ _ (by first | rfl | (simp; done) | omega) | apply Blk.drewN | apply Blk.drew | apply Blk.alloc_old | apply Blk.set_same | apply Blk.set_other)) | (show (_ : Nat) ≠ _; first | omega | (simp; done) | (simp; omega)) | ((simp only [List.setIfInBounds_toArray, List.set_cons_succ, List.set_cons_zero]); (with_reducible exact rfl)) | (with_reducible exact rfl) | (show (_ : Array Value) = _; exact rfl)))⟩
  case round =>
    clear g8 C8 B8 Z8 S8 M8 cC fC zC cB fB zB cZ fZ zZ cS fS zS cM fM zM
    obtain ⟨k, hk, rfl, g9, C9, B9, Z9, S9, M9⟩ := hrel
    have hz9 := g9.size
    have cC := C9.cell; have fC := C9.frozen; have zC := C9.size; have yC9 := C9.size
    have cB := B9.cell; have fB := B9.frozen; have zB := B9.size; have yB9 := B9.size
    have cZ := Z9.cell; have fZ := Z9.frozen; have zZ := Z9.size; have yZ9 := Z9.size
    have cS := S9.cell; have fS := S9.frozen; have zS := S9.size; have yS9 := S9.size
    have cM := M9.cell; have fM := M9.frozen; have zM := M9.size; have yM9 := M9.size
    by_cases hlt : k < 6
    · obtain ⟨k2, hk2⟩ : ∃ k2 : Int, (k : Int) * k = k2 := ⟨_, rfl⟩
      obtain ⟨k3, hk3⟩ : ∃ k3 : Int, k2 * (k : Int) = k3 := ⟨_, rfl⟩
      have hcu := cube_in k (by omega)
      rw [hk2, hk3] at hcu
      obtain ⟨hb2, hb3⟩ := hcu
      obtain ⟨k4, hk4⟩ : ∃ k4 : Int, k2 * 40 = k4 := ⟨_, rfl⟩
      have hb4 : 0 ≤ k4 ∧ k4 ≤ 1000 := by omega
      have hw0 : IntKind.i64.wrap k2 = k2 := IntWalk.i64_in _ ⟨by omega, by omega⟩
      have hw7 : IntKind.i64.wrap k3 = k3 := IntWalk.i64_in _ ⟨by omega, by omega⟩
      have hw8 : IntKind.i64.wrap k4 = k4 := IntWalk.i64_in _ ⟨by omega, by omega⟩
      have hw1 : IntKind.i64.wrap ((k : Int) * k) = k2 := by rw [hk2]; exact IntWalk.i64_in _ ⟨by omega, by omega⟩
      have hw2 : IntKind.i64.wrap (k2 * (k : Int)) = k3 := by rw [hk3]; exact IntWalk.i64_in _ ⟨by omega, by omega⟩
      have hw4 : IntKind.i64.wrap (k2 * 40) = k4 := by rw [hk4]; exact IntWalk.i64_in _ ⟨by omega, by omega⟩
      have hw5 : IntKind.i64.wrap (1 + k4) = 1 + k4 := IntWalk.i64_in _ ⟨by omega, by omega⟩
      have hw6 : IntKind.u64.wrap (1 + k4) = 1 + k4 := IntWalk.u64_in _ ⟨by omega, by omega⟩
      have hw3 : IntKind.u64.wrap k3 = k3 := IntWalk.u64_in _ ⟨by omega, by omega⟩
      obtain ⟨x, hx⟩ : ∃ x, xb + d + k3 = x := ⟨_, rfl⟩
      obtain ⟨W, hW⟩ : ∃ W, yb + (1 + k4) = W := ⟨_, rfl⟩
      obtain ⟨p, hp⟩ : ∃ p, r.at x = p := ⟨_, rfl⟩
      obtain ⟨e0, hv⟩ : ∃ e0, s.at x = e0 := ⟨_, rfl⟩
      obtain ⟨ta, hta⟩ : ∃ t, r.reach W = t := ⟨_, rfl⟩
      obtain ⟨tb, htb⟩ : ∃ t, s.reach W = t := ⟨_, rfl⟩
      have xr : 0 ≤ x ∧ x ≤ 18446744073709551615 := by omega
      have W1 : In128 W := by unfold In128 at *; omega
      have hqa := Hh1.out x (by omega) (by omega)
      have hqr := Hh2.out W (by omega)
      rw [hp, hv] at hqa
      rw [hta, htb] at hqr
      have p1 : In128 p := by rw [← hp]; exact RN.at_in or x
      have e01 : In128 e0 := by rw [← hv]; exact RN.at_in os x
      obtain ⟨c1, hc1⟩ : ∃ c1, cmp e0 p = c1 := ⟨_, rfl⟩
      have Hp := hide hp; have Hv := hide hv; have Hta := hide hta; have Htb := hide htb; have HW := hide hW; have Hc1 := hide hc1
      clear hp hv hta htb hW hc1
      have kz : decide ((k : Int) < 6) = true := by simp; omega
      by_cases hcl : e0 < p
      · by_cases hcm : ta < tb
        · have kc : decide (c1 < 0) = true := by rw [← Hc1.out]; unfold cmp; rw [if_pos hcl]; rfl
          have hqa' := hide (show q.at x = e0 by omega)
          have hqr' := hide (show q.reach W = tb by omega)
          clear hqa hqr hcl
          have ne1 := wneq e0 e0 false e01 e01 (by simp)
          have ne2 : (tb != tb) = false := by simp
          go_wp2_with fail
          try rw [hx]
          refine (runat r x p _ or xr Hp.out).mono ?_
          rintro e w10 ⟨rfl, hb10⟩
          have C10 : Blk w10 (w.heap.size) #[.int .u64 m, .int .u64 d, .int .u64 n] 24 := Blk.below (by (repeat' (first | (with_reducible (first | assumption | exact Blk.alloc_new _ _ _ (by first | rfl | (simp; done) | omega) | apply Blk.drewN | apply Blk.drew | apply Blk.alloc_old | apply Blk.set_same | apply Blk.set_other)) | (show (_ : Nat) ≠ _; first | omega | (simp; done) | (simp; omega)) | ((simp only [List.setIfInBounds_toArray, List.set_cons_succ, List.set_cons_zero]); (with_reducible exact rfl)) | (with_reducible exact rfl) | (show (_ : Array Value) = _; exact rfl)))) hb10 (by first | (simp; done) | omega | (simp; omega))
          have B10 : Blk w10 (w.heap.size + 1 + 1) #[.int .u64 xb, .int .u64 (hi (yb)), .int .u64 (lo (yb))] 28 := Blk.below (by (repeat' (first | (with_reducible (first | assumption | exact Blk.alloc_new _ _ _ (by first | rfl | (simp; done) | omega) | apply Blk.drewN | apply Blk.drew | apply Blk.alloc_old | apply Blk.set_same | apply Blk.set_other)) | (show (_ : Nat) ≠ _; first | omega | (simp; done) | (simp; omega)) | ((simp only [List.setIfInBounds_toArray, List.set_cons_succ, List.set_cons_zero]); (with_reducible exact rfl)) | (with_reducible exact rfl) | (show (_ : Array Value) = _; exact rfl)))) hb10 (by first | (simp; done) | omega | (simp; omega))
          have Z10 : Blk w10 (w5.heap.size) #[.int .u64 r.f.X, .int .u64 (hi (r.f.Y)), .int .u64 (lo (r.f.Y)), .int .u64 r.f.M, .int .u64 r.t.X, .int .u64 (hi (r.t.Y)), .int .u64 (lo (r.t.Y)), .int .u64 r.t.M, .bool r.b] 40 := Blk.below (by (repeat' (first | (with_reducible (first | assumption | exact Blk.alloc_new _ _ _ (by first | rfl | (simp; done) | omega) | apply Blk.drewN | apply Blk.drew | apply Blk.alloc_old | apply Blk.set_same | apply Blk.set_other)) | (show (_ : Nat) ≠ _; first | omega | (simp; done) | (simp; omega)) | ((simp only [List.setIfInBounds_toArray, List.set_cons_succ, List.set_cons_zero]); (with_reducible exact rfl)) | (with_reducible exact rfl) | (show (_ : Array Value) = _; exact rfl)))) hb10 (by first | (simp; done) | omega | (simp; omega))
          have S10 : Blk w10 (w6.heap.size) #[.int .u64 s.f.X, .int .u64 (hi (s.f.Y)), .int .u64 (lo (s.f.Y)), .int .u64 s.f.M, .int .u64 s.t.X, .int .u64 (hi (s.t.Y)), .int .u64 (lo (s.t.Y)), .int .u64 s.t.M, .bool s.b] 40 := Blk.below (by (repeat' (first | (with_reducible (first | assumption | exact Blk.alloc_new _ _ _ (by first | rfl | (simp; done) | omega) | apply Blk.drewN | apply Blk.drew | apply Blk.alloc_old | apply Blk.set_same | apply Blk.set_other)) | (show (_ : Nat) ≠ _; first | omega | (simp; done) | (simp; omega)) | ((simp only [List.setIfInBounds_toArray, List.set_cons_succ, List.set_cons_zero]); (with_reducible exact rfl)) | (with_reducible exact rfl) | (show (_ : Array Value) = _; exact rfl)))) hb10 (by first | (simp; done) | omega | (simp; omega))
          have M10 : Blk w10 (w7.heap.size) #[.int .u64 q.f.X, .int .u64 (hi (q.f.Y)), .int .u64 (lo (q.f.Y)), .int .u64 q.f.M, .int .u64 q.t.X, .int .u64 (hi (q.t.Y)), .int .u64 (lo (q.t.Y)), .int .u64 q.t.M, .bool q.b] 40 := Blk.below (by (repeat' (first | (with_reducible (first | assumption | exact Blk.alloc_new _ _ _ (by first | rfl | (simp; done) | omega) | apply Blk.drewN | apply Blk.drew | apply Blk.alloc_old | apply Blk.set_same | apply Blk.set_other)) | (show (_ : Nat) ≠ _; first | omega | (simp; done) | (simp; omega)) | ((simp only [List.setIfInBounds_toArray, List.set_cons_succ, List.set_cons_zero]); (with_reducible exact rfl)) | (with_reducible exact rfl) | (show (_ : Array Value) = _; exact rfl)))) hb10 (by first | (simp; done) | omega | (simp; omega))
          have g10 : Below w.heap.size w w10 := by refine Below.trans ?_ (hb10.mono ?_) <;> (repeat' (first | (with_reducible (first | exact Below.refl _ _ | assumption | refine below_drewN ?_ _ | refine Below.drew ?_ | refine Below.alloc ?_ ?_ _ | refine Below.setCell ?_ ?_ _)) | go_size))
          have hz10 := hb10.size
          (try simp at hz10)
          clear hb10
          replace cC := C10.cell
          replace fC := C10.frozen
          replace zC := C10.size
          replace cB := B10.cell
          replace fB := B10.frozen
          replace zB := B10.size
          replace cZ := Z10.cell
          replace fZ := Z10.frozen
          replace zZ := Z10.size
          replace cS := S10.cell
          replace fS := S10.frozen
          replace zS := S10.size
          replace cM := M10.cell
          replace fM := M10.frozen
          replace zM := M10.size
          go_wp2_with fail
          refine wp_forget (fun v => Below w.heap.size w v ∧ Blk v (w.heap.size) #[.int .u64 m, .int .u64 d, .int .u64 n] 24 ∧ Blk v (w.heap.size + 1 + 1) #[.int .u64 xb, .int .u64 (hi (yb)), .int .u64 (lo (yb))] 28 ∧ Blk v (w5.heap.size) #[.int .u64 r.f.X, .int .u64 (hi (r.f.Y)), .int .u64 (lo (r.f.Y)), .int .u64 r.f.M, .int .u64 r.t.X, .int .u64 (hi (r.t.Y)), .int .u64 (lo (r.t.Y)), .int .u64 r.t.M, .bool r.b] 40 ∧ Blk v (w6.heap.size) #[.int .u64 s.f.X, .int .u64 (hi (s.f.Y)), .int .u64 (lo (s.f.Y)), .int .u64 s.f.M, .int .u64 s.t.X, .int .u64 (hi (s.t.Y)), .int .u64 (lo (s.t.Y)), .int .u64 s.t.M, .bool s.b] 40 ∧ Blk v (w7.heap.size) #[.int .u64 q.f.X, .int .u64 (hi (q.f.Y)), .int .u64 (lo (q.f.Y)), .int .u64 q.f.M, .int .u64 q.t.X, .int .u64 (hi (q.t.Y)), .int .u64 (lo (q.t.Y)), .int .u64 q.t.M, .bool q.b] 40 ∧ Blk v (w10.heap.size) #[.int .u64 (hi (p)), .int .u64 (lo (p))] 26) ⟨by (repeat' (first | (with_reducible (first | exact Below.refl _ _ | assumption | refine below_drewN ?_ _ | refine Below.drew ?_ | refine Below.alloc ?_ ?_ _ | refine Below.setCell ?_ ?_ _)) | go_size)), by (repeat' (first | (with_reducible (first | assumption | exact Blk.alloc_new _ _ _ (by first | rfl | (simp; done) | omega) | apply Blk.drewN | apply Blk.drew | apply Blk.alloc_old | apply Blk.set_same | apply Blk.set_other)) | (show (_ : Nat) ≠ _; first | omega | (simp; done) | (simp; omega)) | ((simp only [List.setIfInBounds_toArray, List.set_cons_succ, List.set_cons_zero]); (with_reducible exact rfl)) | (with_reducible exact rfl) | (show (_ : Array Value) = _; exact rfl))), by (repeat' (first | (with_reducible (first | assumption | exact Blk.alloc_new _ _ _ (by first | rfl | (simp; done) | omega) | apply Blk.drewN | apply Blk.drew | apply Blk.alloc_old | apply Blk.set_same | apply Blk.set_other)) | (show (_ : Nat) ≠ _; first | omega | (simp; done) | (simp; omega)) | ((simp only [List.setIfInBounds_toArray, List.set_cons_succ, List.set_cons_zero]); (with_reducible exact rfl)) | (with_reducible exact rfl) | (show (_ : Array Value) = _; exact rfl))), by (repeat' (first | (with_reducible (first | assumption | exact Blk.alloc_new _ _ _ (by first | rfl | (simp; done) | omega) | apply Blk.drewN | apply Blk.drew | apply Blk.alloc_old | apply Blk.set_same | apply Blk.set_other)) | (show (_ : Nat) ≠ _; first | omega | (simp; done) | (simp; omega)) | ((simp only [List.setIfInBounds_toArray, List.set_cons_succ, List.set_cons_zero]); (with_reducible exact rfl)) | (with_reducible exact rfl) | (show (_ : Array Value) = _; exact rfl))), by (repeat' (first | (with_reducible (first | assumption | exact Blk.alloc_new _ _ _ (by first | rfl | (simp; done) | omega) | apply Blk.drewN | apply Blk.drew | apply Blk.alloc_old | apply Blk.set_same | apply Blk.set_other)) | (show (_ : Nat) ≠ _; first | omega | (simp; done) | (simp; omega)) | ((simp only [List.setIfInBounds_toArray, List.set_cons_succ, List.set_cons_zero]); (with_reducible exact rfl)) | (with_reducible exact rfl) | (show (_ : Array Value) = _; exact rfl))), by (repeat' (first | (with_reducible (first | assumption | exact Blk.alloc_new _ _ _ (by first | rfl | (simp; done) | omega) | apply Blk.drewN | apply Blk.drew | apply Blk.alloc_old | apply Blk.set_same | apply Blk.set_other)) | (show (_ : Nat) ≠ _; first | omega | (simp; done) | (simp; omega)) | ((simp only [List.setIfInBounds_toArray, List.set_cons_succ, List.set_cons_zero]); (with_reducible exact rfl)) | (with_reducible exact rfl) | (show (_ : Array Value) = _; exact rfl))), by (repeat' (first | (with_reducible (first | assumption | exact Blk.alloc_new _ _ _ (by first | rfl | (simp; done) | omega) | apply Blk.drewN | apply Blk.drew | apply Blk.alloc_old | apply Blk.set_same | apply Blk.set_other)) | (show (_ : Nat) ≠ _; first | omega | (simp; done) | (simp; omega)) | ((simp only [List.setIfInBounds_toArray, List.set_cons_succ, List.set_cons_zero]); (with_reducible exact rfl)) | (with_reducible exact rfl) | (show (_ : Array Value) = _; exact rfl)))⟩ ?_
          rintro v11 ⟨gv11, Cv11, Bv11, Zv11, Sv11, Mv11, Vv11⟩
          have qC11 := blk_calm Cv11
          have qB11 := blk_calm Bv11
          have qZ11 := blk_calm Zv11
          have qS11 := blk_calm Sv11
          have qM11 := blk_calm Mv11
          have qV11 := blk_calm Vv11
          refine wp_region_quiet_below (by kernel_rfl) (by kernel_rfl) ?_
          repeat (go_big_quiet_step ((first
              | (go_at_call 22; (with_reducible exact Calls.regrown_of (runat s x e0 _ os xr Hv.out)))
              | (go_at_call 23; (with_reducible exact Calls.regrown_of (wcmpC e0 p c1 _ e01 p1 Hc1.out))))))
          refine wpQuiet_nil ?_
          intro _ hw'
          obtain ⟨pq, hw''⟩ := hw'
          subst hw''
          have hb11 := below_regrown v11 pq.d pq.os
          generalize Sort.grow (redrawn v11 pq.d) pq.os = w11 at *
          have C11 : Blk w11 (w.heap.size) #[.int .u64 m, .int .u64 d, .int .u64 n] 24 := Blk.below Cv11 hb11 Cv11.size
          have B11 : Blk w11 (w.heap.size + 1 + 1) #[.int .u64 xb, .int .u64 (hi (yb)), .int .u64 (lo (yb))] 28 := Blk.below Bv11 hb11 Bv11.size
          have Z11 : Blk w11 (w5.heap.size) #[.int .u64 r.f.X, .int .u64 (hi (r.f.Y)), .int .u64 (lo (r.f.Y)), .int .u64 r.f.M, .int .u64 r.t.X, .int .u64 (hi (r.t.Y)), .int .u64 (lo (r.t.Y)), .int .u64 r.t.M, .bool r.b] 40 := Blk.below Zv11 hb11 Zv11.size
          have S11 : Blk w11 (w6.heap.size) #[.int .u64 s.f.X, .int .u64 (hi (s.f.Y)), .int .u64 (lo (s.f.Y)), .int .u64 s.f.M, .int .u64 s.t.X, .int .u64 (hi (s.t.Y)), .int .u64 (lo (s.t.Y)), .int .u64 s.t.M, .bool s.b] 40 := Blk.below Sv11 hb11 Sv11.size
          have M11 : Blk w11 (w7.heap.size) #[.int .u64 q.f.X, .int .u64 (hi (q.f.Y)), .int .u64 (lo (q.f.Y)), .int .u64 q.f.M, .int .u64 q.t.X, .int .u64 (hi (q.t.Y)), .int .u64 (lo (q.t.Y)), .int .u64 q.t.M, .bool q.b] 40 := Blk.below Mv11 hb11 Mv11.size
          have V11 : Blk w11 (w10.heap.size) #[.int .u64 (hi (p)), .int .u64 (lo (p))] 26 := Blk.below Vv11 hb11 Vv11.size
          have g11 : Below w.heap.size w w11 := gv11.trans (hb11.mono gv11.size)
          have hz11 : w.heap.size ≤ w11.heap.size := g11.size
          clear hb11 gv11 Cv11 qC11 Bv11 qB11 Zv11 qZ11 Sv11 qS11 Mv11 qM11 Vv11 qV11
          replace cC := C11.cell
          replace fC := C11.frozen
          replace zC := C11.size
          replace cB := B11.cell
          replace fB := B11.frozen
          replace zB := B11.size
          replace cZ := Z11.cell
          replace fZ := Z11.frozen
          replace zZ := Z11.size
          replace cS := S11.cell
          replace fS := S11.frozen
          replace zS := S11.size
          replace cM := M11.cell
          replace fM := M11.frozen
          replace zM := M11.size
          have cV := V11.cell
          have fV := V11.frozen
          have zV := V11.size
          go_wp2_with fail
          refine (runat s x e0 _ os xr Hv.out).mono ?_
          rintro e w12 ⟨rfl, hb12⟩
          have C12 : Blk w12 (w.heap.size) #[.int .u64 m, .int .u64 d, .int .u64 n] 24 := Blk.below (by (repeat' (first | (with_reducible (first | assumption | exact Blk.alloc_new _ _ _ (by first | rfl | (simp; done) | omega) | apply Blk.drewN | apply Blk.drew | apply Blk.alloc_old | apply Blk.set_same | apply Blk.set_other)) | (show (_ : Nat) ≠ _; first | omega | (simp; done) | (simp; omega)) | ((simp only [List.setIfInBounds_toArray, List.set_cons_succ, List.set_cons_zero]); (with_reducible exact rfl)) | (with_reducible exact rfl) | (show (_ : Array Value) = _; exact rfl)))) hb12 (by first | (simp; done) | omega | (simp; omega))
          have B12 : Blk w12 (w.heap.size + 1 + 1) #[.int .u64 xb, .int .u64 (hi (yb)), .int .u64 (lo (yb))] 28 := Blk.below (by (repeat' (first | (with_reducible (first | assumption | exact Blk.alloc_new _ _ _ (by first | rfl | (simp; done) | omega) | apply Blk.drewN | apply Blk.drew | apply Blk.alloc_old | apply Blk.set_same | apply Blk.set_other)) | (show (_ : Nat) ≠ _; first | omega | (simp; done) | (simp; omega)) | ((simp only [List.setIfInBounds_toArray, List.set_cons_succ, List.set_cons_zero]); (with_reducible exact rfl)) | (with_reducible exact rfl) | (show (_ : Array Value) = _; exact rfl)))) hb12 (by first | (simp; done) | omega | (simp; omega))
          have Z12 : Blk w12 (w5.heap.size) #[.int .u64 r.f.X, .int .u64 (hi (r.f.Y)), .int .u64 (lo (r.f.Y)), .int .u64 r.f.M, .int .u64 r.t.X, .int .u64 (hi (r.t.Y)), .int .u64 (lo (r.t.Y)), .int .u64 r.t.M, .bool r.b] 40 := Blk.below (by (repeat' (first | (with_reducible (first | assumption | exact Blk.alloc_new _ _ _ (by first | rfl | (simp; done) | omega) | apply Blk.drewN | apply Blk.drew | apply Blk.alloc_old | apply Blk.set_same | apply Blk.set_other)) | (show (_ : Nat) ≠ _; first | omega | (simp; done) | (simp; omega)) | ((simp only [List.setIfInBounds_toArray, List.set_cons_succ, List.set_cons_zero]); (with_reducible exact rfl)) | (with_reducible exact rfl) | (show (_ : Array Value) = _; exact rfl)))) hb12 (by first | (simp; done) | omega | (simp; omega))
          have S12 : Blk w12 (w6.heap.size) #[.int .u64 s.f.X, .int .u64 (hi (s.f.Y)), .int .u64 (lo (s.f.Y)), .int .u64 s.f.M, .int .u64 s.t.X, .int .u64 (hi (s.t.Y)), .int .u64 (lo (s.t.Y)), .int .u64 s.t.M, .bool s.b] 40 := Blk.below (by (repeat' (first | (with_reducible (first | assumption | exact Blk.alloc_new _ _ _ (by first | rfl | (simp; done) | omega) | apply Blk.drewN | apply Blk.drew | apply Blk.alloc_old | apply Blk.set_same | apply Blk.set_other)) | (show (_ : Nat) ≠ _; first | omega | (simp; done) | (simp; omega)) | ((simp only [List.setIfInBounds_toArray, List.set_cons_succ, List.set_cons_zero]); (with_reducible exact rfl)) | (with_reducible exact rfl) | (show (_ : Array Value) = _; exact rfl)))) hb12 (by first | (simp; done) | omega | (simp; omega))
          have M12 : Blk w12 (w7.heap.size) #[.int .u64 q.f.X, .int .u64 (hi (q.f.Y)), .int .u64 (lo (q.f.Y)), .int .u64 q.f.M, .int .u64 q.t.X, .int .u64 (hi (q.t.Y)), .int .u64 (lo (q.t.Y)), .int .u64 q.t.M, .bool q.b] 40 := Blk.below (by (repeat' (first | (with_reducible (first | assumption | exact Blk.alloc_new _ _ _ (by first | rfl | (simp; done) | omega) | apply Blk.drewN | apply Blk.drew | apply Blk.alloc_old | apply Blk.set_same | apply Blk.set_other)) | (show (_ : Nat) ≠ _; first | omega | (simp; done) | (simp; omega)) | ((simp only [List.setIfInBounds_toArray, List.set_cons_succ, List.set_cons_zero]); (with_reducible exact rfl)) | (with_reducible exact rfl) | (show (_ : Array Value) = _; exact rfl)))) hb12 (by first | (simp; done) | omega | (simp; omega))
          have V12 : Blk w12 (w10.heap.size) #[.int .u64 (hi (p)), .int .u64 (lo (p))] 26 := Blk.below (by (repeat' (first | (with_reducible (first | assumption | exact Blk.alloc_new _ _ _ (by first | rfl | (simp; done) | omega) | apply Blk.drewN | apply Blk.drew | apply Blk.alloc_old | apply Blk.set_same | apply Blk.set_other)) | (show (_ : Nat) ≠ _; first | omega | (simp; done) | (simp; omega)) | ((simp only [List.setIfInBounds_toArray, List.set_cons_succ, List.set_cons_zero]); (with_reducible exact rfl)) | (with_reducible exact rfl) | (show (_ : Array Value) = _; exact rfl)))) hb12 (by first | (simp; done) | omega | (simp; omega))
          have g12 : Below w.heap.size w w12 := by refine Below.trans ?_ (hb12.mono ?_) <;> (repeat' (first | (with_reducible (first | exact Below.refl _ _ | assumption | refine below_drewN ?_ _ | refine Below.drew ?_ | refine Below.alloc ?_ ?_ _ | refine Below.setCell ?_ ?_ _)) | go_size))
          have hz12 := hb12.size
          (try simp at hz12)
          clear hb12
          replace cC := C12.cell
          replace fC := C12.frozen
          replace zC := C12.size
          replace cB := B12.cell
          replace fB := B12.frozen
          replace zB := B12.size
          replace cZ := Z12.cell
          replace fZ := Z12.frozen
          replace zZ := Z12.size
          replace cS := S12.cell
          replace fS := S12.frozen
          replace zS := S12.size
          replace cM := M12.cell
          replace fM := M12.frozen
          replace zM := M12.size
          replace cV := V12.cell
          replace fV := V12.frozen
          replace zV := V12.size
          go_wp2_with fail
          refine wp_forget (fun v => Below w.heap.size w v ∧ Blk v (w.heap.size) #[.int .u64 m, .int .u64 d, .int .u64 n] 24 ∧ Blk v (w.heap.size + 1 + 1) #[.int .u64 xb, .int .u64 (hi (yb)), .int .u64 (lo (yb))] 28 ∧ Blk v (w5.heap.size) #[.int .u64 r.f.X, .int .u64 (hi (r.f.Y)), .int .u64 (lo (r.f.Y)), .int .u64 r.f.M, .int .u64 r.t.X, .int .u64 (hi (r.t.Y)), .int .u64 (lo (r.t.Y)), .int .u64 r.t.M, .bool r.b] 40 ∧ Blk v (w6.heap.size) #[.int .u64 s.f.X, .int .u64 (hi (s.f.Y)), .int .u64 (lo (s.f.Y)), .int .u64 s.f.M, .int .u64 s.t.X, .int .u64 (hi (s.t.Y)), .int .u64 (lo (s.t.Y)), .int .u64 s.t.M, .bool s.b] 40 ∧ Blk v (w7.heap.size) #[.int .u64 q.f.X, .int .u64 (hi (q.f.Y)), .int .u64 (lo (q.f.Y)), .int .u64 q.f.M, .int .u64 q.t.X, .int .u64 (hi (q.t.Y)), .int .u64 (lo (q.t.Y)), .int .u64 q.t.M, .bool q.b] 40 ∧ Blk v (w10.heap.size) #[.int .u64 (hi (e0)), .int .u64 (lo (e0))] 26) ⟨by (repeat' (first | (with_reducible (first | exact Below.refl _ _ | assumption | refine below_drewN ?_ _ | refine Below.drew ?_ | refine Below.alloc ?_ ?_ _ | refine Below.setCell ?_ ?_ _)) | go_size)), by (repeat' (first | (with_reducible (first | assumption | exact Blk.alloc_new _ _ _ (by first | rfl | (simp; done) | omega) | apply Blk.drewN | apply Blk.drew | apply Blk.alloc_old | apply Blk.set_same | apply Blk.set_other)) | (show (_ : Nat) ≠ _; first | omega | (simp; done) | (simp; omega)) | ((simp only [List.setIfInBounds_toArray, List.set_cons_succ, List.set_cons_zero]); (with_reducible exact rfl)) | (with_reducible exact rfl) | (show (_ : Array Value) = _; exact rfl))), by (repeat' (first | (with_reducible (first | assumption | exact Blk.alloc_new _ _ _ (by first | rfl | (simp; done) | omega) | apply Blk.drewN | apply Blk.drew | apply Blk.alloc_old | apply Blk.set_same | apply Blk.set_other)) | (show (_ : Nat) ≠ _; first | omega | (simp; done) | (simp; omega)) | ((simp only [List.setIfInBounds_toArray, List.set_cons_succ, List.set_cons_zero]); (with_reducible exact rfl)) | (with_reducible exact rfl) | (show (_ : Array Value) = _; exact rfl))), by (repeat' (first | (with_reducible (first | assumption | exact Blk.alloc_new _ _ _ (by first | rfl | (simp; done) | omega) | apply Blk.drewN | apply Blk.drew | apply Blk.alloc_old | apply Blk.set_same | apply Blk.set_other)) | (show (_ : Nat) ≠ _; first | omega | (simp; done) | (simp; omega)) | ((simp only [List.setIfInBounds_toArray, List.set_cons_succ, List.set_cons_zero]); (with_reducible exact rfl)) | (with_reducible exact rfl) | (show (_ : Array Value) = _; exact rfl))), by (repeat' (first | (with_reducible (first | assumption | exact Blk.alloc_new _ _ _ (by first | rfl | (simp; done) | omega) | apply Blk.drewN | apply Blk.drew | apply Blk.alloc_old | apply Blk.set_same | apply Blk.set_other)) | (show (_ : Nat) ≠ _; first | omega | (simp; done) | (simp; omega)) | ((simp only [List.setIfInBounds_toArray, List.set_cons_succ, List.set_cons_zero]); (with_reducible exact rfl)) | (with_reducible exact rfl) | (show (_ : Array Value) = _; exact rfl))), by (repeat' (first | (with_reducible (first | assumption | exact Blk.alloc_new _ _ _ (by first | rfl | (simp; done) | omega) | apply Blk.drewN | apply Blk.drew | apply Blk.alloc_old | apply Blk.set_same | apply Blk.set_other)) | (show (_ : Nat) ≠ _; first | omega | (simp; done) | (simp; omega)) | ((simp only [List.setIfInBounds_toArray, List.set_cons_succ, List.set_cons_zero]); (with_reducible exact rfl)) | (with_reducible exact rfl) | (show (_ : Array Value) = _; exact rfl))), by (repeat' (first | (with_reducible (first | assumption | exact Blk.alloc_new _ _ _ (by first | rfl | (simp; done) | omega) | apply Blk.drewN | apply Blk.drew | apply Blk.alloc_old | apply Blk.set_same | apply Blk.set_other)) | (show (_ : Nat) ≠ _; first | omega | (simp; done) | (simp; omega)) | ((simp only [List.setIfInBounds_toArray, List.set_cons_succ, List.set_cons_zero]); (with_reducible exact rfl)) | (with_reducible exact rfl) | (show (_ : Array Value) = _; exact rfl)))⟩ ?_
          rintro v13 ⟨gv13, Cv13, Bv13, Zv13, Sv13, Mv13, Vv13⟩
          have qC13 := blk_calm Cv13
          have qB13 := blk_calm Bv13
          have qZ13 := blk_calm Zv13
          have qS13 := blk_calm Sv13
          have qM13 := blk_calm Mv13
          have qV13 := blk_calm Vv13
          refine wp_region_quiet_below (by kernel_rfl) (by kernel_rfl) ?_
          repeat (go_big_quiet_step ((first
              | (go_at_call 22; (with_reducible exact Calls.regrown_of (runat q x e0 _ oq xr hqa'.out))))))
          refine wpQuiet_nil ?_
          intro _ hw'
          obtain ⟨pq, hw''⟩ := hw'
          subst hw''
          have hb13 := below_regrown v13 pq.d pq.os
          generalize Sort.grow (redrawn v13 pq.d) pq.os = w13 at *
          have C13 : Blk w13 (w.heap.size) #[.int .u64 m, .int .u64 d, .int .u64 n] 24 := Blk.below Cv13 hb13 Cv13.size
          have B13 : Blk w13 (w.heap.size + 1 + 1) #[.int .u64 xb, .int .u64 (hi (yb)), .int .u64 (lo (yb))] 28 := Blk.below Bv13 hb13 Bv13.size
          have Z13 : Blk w13 (w5.heap.size) #[.int .u64 r.f.X, .int .u64 (hi (r.f.Y)), .int .u64 (lo (r.f.Y)), .int .u64 r.f.M, .int .u64 r.t.X, .int .u64 (hi (r.t.Y)), .int .u64 (lo (r.t.Y)), .int .u64 r.t.M, .bool r.b] 40 := Blk.below Zv13 hb13 Zv13.size
          have S13 : Blk w13 (w6.heap.size) #[.int .u64 s.f.X, .int .u64 (hi (s.f.Y)), .int .u64 (lo (s.f.Y)), .int .u64 s.f.M, .int .u64 s.t.X, .int .u64 (hi (s.t.Y)), .int .u64 (lo (s.t.Y)), .int .u64 s.t.M, .bool s.b] 40 := Blk.below Sv13 hb13 Sv13.size
          have M13 : Blk w13 (w7.heap.size) #[.int .u64 q.f.X, .int .u64 (hi (q.f.Y)), .int .u64 (lo (q.f.Y)), .int .u64 q.f.M, .int .u64 q.t.X, .int .u64 (hi (q.t.Y)), .int .u64 (lo (q.t.Y)), .int .u64 q.t.M, .bool q.b] 40 := Blk.below Mv13 hb13 Mv13.size
          have V13 : Blk w13 (w10.heap.size) #[.int .u64 (hi (e0)), .int .u64 (lo (e0))] 26 := Blk.below Vv13 hb13 Vv13.size
          have g13 : Below w.heap.size w w13 := gv13.trans (hb13.mono gv13.size)
          have hz13 : w.heap.size ≤ w13.heap.size := g13.size
          clear hb13 gv13 Cv13 qC13 Bv13 qB13 Zv13 qZ13 Sv13 qS13 Mv13 qM13 Vv13 qV13
          replace cC := C13.cell
          replace fC := C13.frozen
          replace zC := C13.size
          replace cB := B13.cell
          replace fB := B13.frozen
          replace zB := B13.size
          replace cZ := Z13.cell
          replace fZ := Z13.frozen
          replace zZ := Z13.size
          replace cS := S13.cell
          replace fS := S13.frozen
          replace zS := S13.size
          replace cM := M13.cell
          replace fM := M13.frozen
          replace zM := M13.size
          replace cV := V13.cell
          replace fV := V13.frozen
          replace zV := V13.size
          go_upto_region 15 with (fail)
          go_cut [13, 14] (fun p13 p14 wx => ∃ X, p13 = .pointer (some ⟨X, 0, none⟩) ∧ p14 = .bool false ∧ Below w.heap.size w wx ∧ Blk wx (w.heap.size) #[.int .u64 m, .int .u64 d, .int .u64 n] 24 ∧ Blk wx (w.heap.size + 1 + 1) #[.int .u64 xb, .int .u64 (hi (yb)), .int .u64 (lo (yb))] 28 ∧ Blk wx (w5.heap.size) #[.int .u64 r.f.X, .int .u64 (hi (r.f.Y)), .int .u64 (lo (r.f.Y)), .int .u64 r.f.M, .int .u64 r.t.X, .int .u64 (hi (r.t.Y)), .int .u64 (lo (r.t.Y)), .int .u64 r.t.M, .bool r.b] 40 ∧ Blk wx (w6.heap.size) #[.int .u64 s.f.X, .int .u64 (hi (s.f.Y)), .int .u64 (lo (s.f.Y)), .int .u64 s.f.M, .int .u64 s.t.X, .int .u64 (hi (s.t.Y)), .int .u64 (lo (s.t.Y)), .int .u64 s.t.M, .bool s.b] 40 ∧ Blk wx (w7.heap.size) #[.int .u64 q.f.X, .int .u64 (hi (q.f.Y)), .int .u64 (lo (q.f.Y)), .int .u64 q.f.M, .int .u64 q.t.X, .int .u64 (hi (q.t.Y)), .int .u64 (lo (q.t.Y)), .int .u64 q.t.M, .bool q.b] 40 ∧ Blk wx X #[.int .u64 (hi (W)), .int .u64 (lo (W))] 26)
          case first =>
            go_region_held3 (fun v => (∀ i, v.cell? ⟨w.heap.size, i, none⟩ = #[.int .u64 m, .int .u64 d, .int .u64 n][i]?) ∧ w.heap.size < v.heap.size ∧ Blk v (w.heap.size) #[.int .u64 m, .int .u64 d, .int .u64 n] 24 ∧ (∀ i, v.cell? ⟨w.heap.size + 1 + 1, i, none⟩ = #[.int .u64 xb, .int .u64 (hi (yb)), .int .u64 (lo (yb))][i]?) ∧ w.heap.size + 1 + 1 < v.heap.size ∧ Blk v (w.heap.size + 1 + 1) #[.int .u64 xb, .int .u64 (hi (yb)), .int .u64 (lo (yb))] 28 ∧ (∀ i, v.cell? ⟨w5.heap.size, i, none⟩ = #[.int .u64 r.f.X, .int .u64 (hi (r.f.Y)), .int .u64 (lo (r.f.Y)), .int .u64 r.f.M, .int .u64 r.t.X, .int .u64 (hi (r.t.Y)), .int .u64 (lo (r.t.Y)), .int .u64 r.t.M, .bool r.b][i]?) ∧ w5.heap.size < v.heap.size ∧ Blk v (w5.heap.size) #[.int .u64 r.f.X, .int .u64 (hi (r.f.Y)), .int .u64 (lo (r.f.Y)), .int .u64 r.f.M, .int .u64 r.t.X, .int .u64 (hi (r.t.Y)), .int .u64 (lo (r.t.Y)), .int .u64 r.t.M, .bool r.b] 40 ∧ (∀ i, v.cell? ⟨w6.heap.size, i, none⟩ = #[.int .u64 s.f.X, .int .u64 (hi (s.f.Y)), .int .u64 (lo (s.f.Y)), .int .u64 s.f.M, .int .u64 s.t.X, .int .u64 (hi (s.t.Y)), .int .u64 (lo (s.t.Y)), .int .u64 s.t.M, .bool s.b][i]?) ∧ w6.heap.size < v.heap.size ∧ Blk v (w6.heap.size) #[.int .u64 s.f.X, .int .u64 (hi (s.f.Y)), .int .u64 (lo (s.f.Y)), .int .u64 s.f.M, .int .u64 s.t.X, .int .u64 (hi (s.t.Y)), .int .u64 (lo (s.t.Y)), .int .u64 s.t.M, .bool s.b] 40 ∧ (∀ i, v.cell? ⟨w7.heap.size, i, none⟩ = #[.int .u64 q.f.X, .int .u64 (hi (q.f.Y)), .int .u64 (lo (q.f.Y)), .int .u64 q.f.M, .int .u64 q.t.X, .int .u64 (hi (q.t.Y)), .int .u64 (lo (q.t.Y)), .int .u64 q.t.M, .bool q.b][i]?) ∧ w7.heap.size < v.heap.size ∧ Blk v (w7.heap.size) #[.int .u64 q.f.X, .int .u64 (hi (q.f.Y)), .int .u64 (lo (q.f.Y)), .int .u64 q.f.M, .int .u64 q.t.X, .int .u64 (hi (q.t.Y)), .int .u64 (lo (q.t.Y)), .int .u64 q.t.M, .bool q.b] 40 ∧ Below w.heap.size w v)
              (first
                | (refine ⟨?_, ?_, ?_, ?_, ?_, ?_, ?_, ?_, ?_, ?_, ?_, ?_, ?_, ?_, ?_, ?_⟩ <;> first | (with_reducible assumption) | ((repeat' (first | (with_reducible (first | assumption | exact Blk.alloc_new _ _ _ (by first | rfl | (simp; done) | omega) | apply Blk.drewN | apply Blk.drew | apply Blk.alloc_old | apply Blk.set_same | apply Blk.set_other)) | (show (_ : Nat) ≠ _; first | omega | (simp; done) | (simp; omega)) | ((simp only [List.setIfInBounds_toArray, List.set_cons_succ, List.set_cons_zero]); (with_reducible exact rfl)) | (with_reducible exact rfl) | (show (_ : Array Value) = _; exact rfl))); done) | ((repeat' (first | (with_reducible (first | exact Below.refl _ _ | assumption | refine below_drewN ?_ _ | refine Below.drew ?_ | refine Below.alloc ?_ ?_ _ | refine Below.setCell ?_ ?_ _)) | go_size)); done) | omega | (go_simp; done) | (simp; done) | (exact Blk.cell (by (repeat' (first | (with_reducible (first | assumption | exact Blk.alloc_new _ _ _ (by first | rfl | (simp; done) | omega) | apply Blk.drewN | apply Blk.drew | apply Blk.alloc_old | apply Blk.set_same | apply Blk.set_other)) | (show (_ : Nat) ≠ _; first | omega | (simp; done) | (simp; omega)) | ((simp only [List.setIfInBounds_toArray, List.set_cons_succ, List.set_cons_zero]); (with_reducible exact rfl)) | (with_reducible exact rfl) | (show (_ : Array Value) = _; exact rfl)))))))
              (first
                | (go_at_call 24; (with_reducible refine (wOfW _ (1 + k4) _ (by first | rfl | (simp only [hw0, hk4, hw8, hw5, hw6]; done) | (simp [hw0, hk4, hw8, hw5, hw6]; done) | (trace_state; fail)) (by omega) (by omega)).mono ?_); rintro e w' ⟨rfl, hb'⟩; have hbx : Below w.heap.size w w' := (by refine Below.trans ?_ (Below.mono hb' ?_) <;> (repeat' (first | (with_reducible (first | exact Below.refl _ _ | assumption | refine below_drewN ?_ _ | refine Below.drew ?_ | refine Below.alloc ?_ ?_ _ | refine Below.setCell ?_ ?_ _)) | go_size))); have hbs := hb'.size; (try simp at hbs); (try (first | have hX := Blk.below (Blk.alloc_new _ _ _ rfl) hb' (by first | (simp; done) | omega | (simp; omega)) | have hX := Blk.below (Blk.drew (Blk.alloc_new _ _ _ rfl)) hb' (by first | (simp; done) | omega | (simp; omega)) | have hX := Blk.below hX hb' (by first | (simp; done) | omega | (simp; omega)) | have hX := Blk.below hX.drew hb' (by first | (simp; done) | omega | (simp; omega)))); (try simp only [World.size_alloc] at hX); (try (have cX := hX.cell; have fX := hX.frozen; have zX := hX.size)); have hkC : Blk w' (w.heap.size) #[.int .u64 m, .int .u64 d, .int .u64 n] 24 := Blk.below (by (repeat' (first | (with_reducible (first | assumption | exact Blk.alloc_new _ _ _ (by first | rfl | (simp; done) | omega) | apply Blk.drewN | apply Blk.drew | apply Blk.alloc_old | apply Blk.set_same | apply Blk.set_other)) | (show (_ : Nat) ≠ _; first | omega | (simp; done) | (simp; omega)) | ((simp only [List.setIfInBounds_toArray, List.set_cons_succ, List.set_cons_zero]); (with_reducible exact rfl)) | (with_reducible exact rfl) | (show (_ : Array Value) = _; exact rfl)))) hb' (by first | (simp; done) | omega | (simp; omega)); have hqC := hkC.cell; have hzC := hkC.size; have hkB : Blk w' (w.heap.size + 1 + 1) #[.int .u64 xb, .int .u64 (hi (yb)), .int .u64 (lo (yb))] 28 := Blk.below (by (repeat' (first | (with_reducible (first | assumption | exact Blk.alloc_new _ _ _ (by first | rfl | (simp; done) | omega) | apply Blk.drewN | apply Blk.drew | apply Blk.alloc_old | apply Blk.set_same | apply Blk.set_other)) | (show (_ : Nat) ≠ _; first | omega | (simp; done) | (simp; omega)) | ((simp only [List.setIfInBounds_toArray, List.set_cons_succ, List.set_cons_zero]); (with_reducible exact rfl)) | (with_reducible exact rfl) | (show (_ : Array Value) = _; exact rfl)))) hb' (by first | (simp; done) | omega | (simp; omega)); have hqB := hkB.cell; have hzB := hkB.size; have hkZ : Blk w' (w5.heap.size) #[.int .u64 r.f.X, .int .u64 (hi (r.f.Y)), .int .u64 (lo (r.f.Y)), .int .u64 r.f.M, .int .u64 r.t.X, .int .u64 (hi (r.t.Y)), .int .u64 (lo (r.t.Y)), .int .u64 r.t.M, .bool r.b] 40 := Blk.below (by (repeat' (first | (with_reducible (first | assumption | exact Blk.alloc_new _ _ _ (by first | rfl | (simp; done) | omega) | apply Blk.drewN | apply Blk.drew | apply Blk.alloc_old | apply Blk.set_same | apply Blk.set_other)) | (show (_ : Nat) ≠ _; first | omega | (simp; done) | (simp; omega)) | ((simp only [List.setIfInBounds_toArray, List.set_cons_succ, List.set_cons_zero]); (with_reducible exact rfl)) | (with_reducible exact rfl) | (show (_ : Array Value) = _; exact rfl)))) hb' (by first | (simp; done) | omega | (simp; omega)); have hqZ := hkZ.cell; have hzZ := hkZ.size; have hkS : Blk w' (w6.heap.size) #[.int .u64 s.f.X, .int .u64 (hi (s.f.Y)), .int .u64 (lo (s.f.Y)), .int .u64 s.f.M, .int .u64 s.t.X, .int .u64 (hi (s.t.Y)), .int .u64 (lo (s.t.Y)), .int .u64 s.t.M, .bool s.b] 40 := Blk.below (by (repeat' (first | (with_reducible (first | assumption | exact Blk.alloc_new _ _ _ (by first | rfl | (simp; done) | omega) | apply Blk.drewN | apply Blk.drew | apply Blk.alloc_old | apply Blk.set_same | apply Blk.set_other)) | (show (_ : Nat) ≠ _; first | omega | (simp; done) | (simp; omega)) | ((simp only [List.setIfInBounds_toArray, List.set_cons_succ, List.set_cons_zero]); (with_reducible exact rfl)) | (with_reducible exact rfl) | (show (_ : Array Value) = _; exact rfl)))) hb' (by first | (simp; done) | omega | (simp; omega)); have hqS := hkS.cell; have hzS := hkS.size; have hkM : Blk w' (w7.heap.size) #[.int .u64 q.f.X, .int .u64 (hi (q.f.Y)), .int .u64 (lo (q.f.Y)), .int .u64 q.f.M, .int .u64 q.t.X, .int .u64 (hi (q.t.Y)), .int .u64 (lo (q.t.Y)), .int .u64 q.t.M, .bool q.b] 40 := Blk.below (by (repeat' (first | (with_reducible (first | assumption | exact Blk.alloc_new _ _ _ (by first | rfl | (simp; done) | omega) | apply Blk.drewN | apply Blk.drew | apply Blk.alloc_old | apply Blk.set_same | apply Blk.set_other)) | (show (_ : Nat) ≠ _; first | omega | (simp; done) | (simp; omega)) | ((simp only [List.setIfInBounds_toArray, List.set_cons_succ, List.set_cons_zero]); (with_reducible exact rfl)) | (with_reducible exact rfl) | (show (_ : Array Value) = _; exact rfl)))) hb' (by first | (simp; done) | omega | (simp; omega)); have hqM := hkM.cell; have hzM := hkM.size; clear hb')
                | (go_at_call 20; (with_reducible refine (wAddD yb (1 + k4) W _ hyb (by unfold In128; omega) HW.out W1).mono ?_); rintro e w' ⟨rfl, hb'⟩; have hbx : Below w.heap.size w w' := (by refine Below.trans ?_ (Below.mono hb' ?_) <;> (repeat' (first | (with_reducible (first | exact Below.refl _ _ | assumption | refine below_drewN ?_ _ | refine Below.drew ?_ | refine Below.alloc ?_ ?_ _ | refine Below.setCell ?_ ?_ _)) | go_size))); have hbs := hb'.size; (try simp at hbs); (try (first | have hX := Blk.below (Blk.alloc_new _ _ _ rfl) hb' (by first | (simp; done) | omega | (simp; omega)) | have hX := Blk.below (Blk.drew (Blk.alloc_new _ _ _ rfl)) hb' (by first | (simp; done) | omega | (simp; omega)) | have hX := Blk.below hX hb' (by first | (simp; done) | omega | (simp; omega)) | have hX := Blk.below hX.drew hb' (by first | (simp; done) | omega | (simp; omega)))); (try simp only [World.size_alloc] at hX); (try (have cX := hX.cell; have fX := hX.frozen; have zX := hX.size)); have hkC : Blk w' (w.heap.size) #[.int .u64 m, .int .u64 d, .int .u64 n] 24 := Blk.below (by (repeat' (first | (with_reducible (first | assumption | exact Blk.alloc_new _ _ _ (by first | rfl | (simp; done) | omega) | apply Blk.drewN | apply Blk.drew | apply Blk.alloc_old | apply Blk.set_same | apply Blk.set_other)) | (show (_ : Nat) ≠ _; first | omega | (simp; done) | (simp; omega)) | ((simp only [List.setIfInBounds_toArray, List.set_cons_succ, List.set_cons_zero]); (with_reducible exact rfl)) | (with_reducible exact rfl) | (show (_ : Array Value) = _; exact rfl)))) hb' (by first | (simp; done) | omega | (simp; omega)); have hqC := hkC.cell; have hzC := hkC.size; have hkB : Blk w' (w.heap.size + 1 + 1) #[.int .u64 xb, .int .u64 (hi (yb)), .int .u64 (lo (yb))] 28 := Blk.below (by (repeat' (first | (with_reducible (first | assumption | exact Blk.alloc_new _ _ _ (by first | rfl | (simp; done) | omega) | apply Blk.drewN | apply Blk.drew | apply Blk.alloc_old | apply Blk.set_same | apply Blk.set_other)) | (show (_ : Nat) ≠ _; first | omega | (simp; done) | (simp; omega)) | ((simp only [List.setIfInBounds_toArray, List.set_cons_succ, List.set_cons_zero]); (with_reducible exact rfl)) | (with_reducible exact rfl) | (show (_ : Array Value) = _; exact rfl)))) hb' (by first | (simp; done) | omega | (simp; omega)); have hqB := hkB.cell; have hzB := hkB.size; have hkZ : Blk w' (w5.heap.size) #[.int .u64 r.f.X, .int .u64 (hi (r.f.Y)), .int .u64 (lo (r.f.Y)), .int .u64 r.f.M, .int .u64 r.t.X, .int .u64 (hi (r.t.Y)), .int .u64 (lo (r.t.Y)), .int .u64 r.t.M, .bool r.b] 40 := Blk.below (by (repeat' (first | (with_reducible (first | assumption | exact Blk.alloc_new _ _ _ (by first | rfl | (simp; done) | omega) | apply Blk.drewN | apply Blk.drew | apply Blk.alloc_old | apply Blk.set_same | apply Blk.set_other)) | (show (_ : Nat) ≠ _; first | omega | (simp; done) | (simp; omega)) | ((simp only [List.setIfInBounds_toArray, List.set_cons_succ, List.set_cons_zero]); (with_reducible exact rfl)) | (with_reducible exact rfl) | (show (_ : Array Value) = _; exact rfl)))) hb' (by first | (simp; done) | omega | (simp; omega)); have hqZ := hkZ.cell; have hzZ := hkZ.size; have hkS : Blk w' (w6.heap.size) #[.int .u64 s.f.X, .int .u64 (hi (s.f.Y)), .int .u64 (lo (s.f.Y)), .int .u64 s.f.M, .int .u64 s.t.X, .int .u64 (hi (s.t.Y)), .int .u64 (lo (s.t.Y)), .int .u64 s.t.M, .bool s.b] 40 := Blk.below (by (repeat' (first | (with_reducible (first | assumption | exact Blk.alloc_new _ _ _ (by first | rfl | (simp; done) | omega) | apply Blk.drewN | apply Blk.drew | apply Blk.alloc_old | apply Blk.set_same | apply Blk.set_other)) | (show (_ : Nat) ≠ _; first | omega | (simp; done) | (simp; omega)) | ((simp only [List.setIfInBounds_toArray, List.set_cons_succ, List.set_cons_zero]); (with_reducible exact rfl)) | (with_reducible exact rfl) | (show (_ : Array Value) = _; exact rfl)))) hb' (by first | (simp; done) | omega | (simp; omega)); have hqS := hkS.cell; have hzS := hkS.size; have hkM : Blk w' (w7.heap.size) #[.int .u64 q.f.X, .int .u64 (hi (q.f.Y)), .int .u64 (lo (q.f.Y)), .int .u64 q.f.M, .int .u64 q.t.X, .int .u64 (hi (q.t.Y)), .int .u64 (lo (q.t.Y)), .int .u64 q.t.M, .bool q.b] 40 := Blk.below (by (repeat' (first | (with_reducible (first | assumption | exact Blk.alloc_new _ _ _ (by first | rfl | (simp; done) | omega) | apply Blk.drewN | apply Blk.drew | apply Blk.alloc_old | apply Blk.set_same | apply Blk.set_other)) | (show (_ : Nat) ≠ _; first | omega | (simp; done) | (simp; omega)) | ((simp only [List.setIfInBounds_toArray, List.set_cons_succ, List.set_cons_zero]); (with_reducible exact rfl)) | (with_reducible exact rfl) | (show (_ : Array Value) = _; exact rfl)))) hb' (by first | (simp; done) | omega | (simp; omega)); have hqM := hkM.cell; have hzM := hkM.size; clear hb'))
            all_goals
              go_wp2_with fail
              go_meet
              exact ⟨_, rfl, rfl, by (repeat' (first | (with_reducible (first | exact Below.refl _ _ | assumption | refine below_drewN ?_ _ | refine Below.drew ?_ | refine Below.alloc ?_ ?_ _ | refine Below.setCell ?_ ?_ _)) | go_size)), by (repeat' (first | (with_reducible (first | assumption | exact Blk.alloc_new _ _ _ (by first | rfl | (simp; done) | omega) | apply Blk.drewN | apply Blk.drew | apply Blk.alloc_old | apply Blk.set_same | apply Blk.set_other)) | (show (_ : Nat) ≠ _; first | omega | (simp; done) | (simp; omega)) | ((simp only [List.setIfInBounds_toArray, List.set_cons_succ, List.set_cons_zero]); (with_reducible exact rfl)) | (with_reducible exact rfl) | (show (_ : Array Value) = _; exact rfl))), by (repeat' (first | (with_reducible (first | assumption | exact Blk.alloc_new _ _ _ (by first | rfl | (simp; done) | omega) | apply Blk.drewN | apply Blk.drew | apply Blk.alloc_old | apply Blk.set_same | apply Blk.set_other)) | (show (_ : Nat) ≠ _; first | omega | (simp; done) | (simp; omega)) | ((simp only [List.setIfInBounds_toArray, List.set_cons_succ, List.set_cons_zero]); (with_reducible exact rfl)) | (with_reducible exact rfl) | (show (_ : Array Value) = _; exact rfl))), by (repeat' (first | (with_reducible (first | assumption | exact Blk.alloc_new _ _ _ (by first | rfl | (simp; done) | omega) | apply Blk.drewN | apply Blk.drew | apply Blk.alloc_old | apply Blk.set_same | apply Blk.set_other)) | (show (_ : Nat) ≠ _; first | omega | (simp; done) | (simp; omega)) | ((simp only [List.setIfInBounds_toArray, List.set_cons_succ, List.set_cons_zero]); (with_reducible exact rfl)) | (with_reducible exact rfl) | (show (_ : Array Value) = _; exact rfl))), by (repeat' (first | (with_reducible (first | assumption | exact Blk.alloc_new _ _ _ (by first | rfl | (simp; done) | omega) | apply Blk.drewN | apply Blk.drew | apply Blk.alloc_old | apply Blk.set_same | apply Blk.set_other)) | (show (_ : Nat) ≠ _; first | omega | (simp; done) | (simp; omega)) | ((simp only [List.setIfInBounds_toArray, List.set_cons_succ, List.set_cons_zero]); (with_reducible exact rfl)) | (with_reducible exact rfl) | (show (_ : Array Value) = _; exact rfl))), by (repeat' (first | (with_reducible (first | assumption | exact Blk.alloc_new _ _ _ (by first | rfl | (simp; done) | omega) | apply Blk.drewN | apply Blk.drew | apply Blk.alloc_old | apply Blk.set_same | apply Blk.set_other)) | (show (_ : Nat) ≠ _; first | omega | (simp; done) | (simp; omega)) | ((simp only [List.setIfInBounds_toArray, List.set_cons_succ, List.set_cons_zero]); (with_reducible exact rfl)) | (with_reducible exact rfl) | (show (_ : Array Value) = _; exact rfl))), by (repeat' (first | (with_reducible (first | assumption | exact Blk.alloc_new _ _ _ (by first | rfl | (simp; done) | omega) | apply Blk.drewN | apply Blk.drew | apply Blk.alloc_old | apply Blk.set_same | apply Blk.set_other)) | (show (_ : Nat) ≠ _; first | omega | (simp; done) | (simp; omega)) | ((simp only [List.setIfInBounds_toArray, List.set_cons_succ, List.set_cons_zero]); (with_reducible exact rfl)) | (with_reducible exact rfl) | (show (_ : Array Value) = _; exact rfl)))⟩
          case rest =>
            obtain ⟨PY, rfl, rfl, g14, C14, B14, Z14, S14, M14, Y14⟩ := hcut
            have hz14 := g14.size
            have cC := C14.cell; have fC := C14.frozen; have zC := C14.size
            have cB := B14.cell; have fB := B14.frozen; have zB := B14.size
            have cZ := Z14.cell; have fZ := Z14.frozen; have zZ := Z14.size
            have cS := S14.cell; have fS := S14.frozen; have zS := S14.size
            have cM := M14.cell; have fM := M14.frozen; have zM := M14.size
            have cY := Y14.cell; have fY := Y14.frozen; have zY := Y14.size
            go_wp2_with fail
            refine wp_forget (fun v => Below w.heap.size w v ∧ Blk v (w.heap.size) #[.int .u64 m, .int .u64 d, .int .u64 n] 24 ∧ Blk v (w.heap.size + 1 + 1) #[.int .u64 xb, .int .u64 (hi (yb)), .int .u64 (lo (yb))] 28 ∧ Blk v (w5.heap.size) #[.int .u64 r.f.X, .int .u64 (hi (r.f.Y)), .int .u64 (lo (r.f.Y)), .int .u64 r.f.M, .int .u64 r.t.X, .int .u64 (hi (r.t.Y)), .int .u64 (lo (r.t.Y)), .int .u64 r.t.M, .bool r.b] 40 ∧ Blk v (w6.heap.size) #[.int .u64 s.f.X, .int .u64 (hi (s.f.Y)), .int .u64 (lo (s.f.Y)), .int .u64 s.f.M, .int .u64 s.t.X, .int .u64 (hi (s.t.Y)), .int .u64 (lo (s.t.Y)), .int .u64 s.t.M, .bool s.b] 40 ∧ Blk v (w7.heap.size) #[.int .u64 q.f.X, .int .u64 (hi (q.f.Y)), .int .u64 (lo (q.f.Y)), .int .u64 q.f.M, .int .u64 q.t.X, .int .u64 (hi (q.t.Y)), .int .u64 (lo (q.t.Y)), .int .u64 q.t.M, .bool q.b] 40 ∧ Blk v (PY) #[.int .u64 (hi (W)), .int .u64 (lo (W))] 26) ⟨by (repeat' (first | (with_reducible (first | exact Below.refl _ _ | assumption | refine below_drewN ?_ _ | refine Below.drew ?_ | refine Below.alloc ?_ ?_ _ | refine Below.setCell ?_ ?_ _)) | go_size)), by (repeat' (first | (with_reducible (first | assumption | exact Blk.alloc_new _ _ _ (by first | rfl | (simp; done) | omega) | apply Blk.drewN | apply Blk.drew | apply Blk.alloc_old | apply Blk.set_same | apply Blk.set_other)) | (show (_ : Nat) ≠ _; first | omega | (simp; done) | (simp; omega)) | ((simp only [List.setIfInBounds_toArray, List.set_cons_succ, List.set_cons_zero]); (with_reducible exact rfl)) | (with_reducible exact rfl) | (show (_ : Array Value) = _; exact rfl))), by (repeat' (first | (with_reducible (first | assumption | exact Blk.alloc_new _ _ _ (by first | rfl | (simp; done) | omega) | apply Blk.drewN | apply Blk.drew | apply Blk.alloc_old | apply Blk.set_same | apply Blk.set_other)) | (show (_ : Nat) ≠ _; first | omega | (simp; done) | (simp; omega)) | ((simp only [List.setIfInBounds_toArray, List.set_cons_succ, List.set_cons_zero]); (with_reducible exact rfl)) | (with_reducible exact rfl) | (show (_ : Array Value) = _; exact rfl))), by (repeat' (first | (with_reducible (first | assumption | exact Blk.alloc_new _ _ _ (by first | rfl | (simp; done) | omega) | apply Blk.drewN | apply Blk.drew | apply Blk.alloc_old | apply Blk.set_same | apply Blk.set_other)) | (show (_ : Nat) ≠ _; first | omega | (simp; done) | (simp; omega)) | ((simp only [List.setIfInBounds_toArray, List.set_cons_succ, List.set_cons_zero]); (with_reducible exact rfl)) | (with_reducible exact rfl) | (show (_ : Array Value) = _; exact rfl))), by (repeat' (first | (with_reducible (first | assumption | exact Blk.alloc_new _ _ _ (by first | rfl | (simp; done) | omega) | apply Blk.drewN | apply Blk.drew | apply Blk.alloc_old | apply Blk.set_same | apply Blk.set_other)) | (show (_ : Nat) ≠ _; first | omega | (simp; done) | (simp; omega)) | ((simp only [List.setIfInBounds_toArray, List.set_cons_succ, List.set_cons_zero]); (with_reducible exact rfl)) | (with_reducible exact rfl) | (show (_ : Array Value) = _; exact rfl))), by (repeat' (first | (with_reducible (first | assumption | exact Blk.alloc_new _ _ _ (by first | rfl | (simp; done) | omega) | apply Blk.drewN | apply Blk.drew | apply Blk.alloc_old | apply Blk.set_same | apply Blk.set_other)) | (show (_ : Nat) ≠ _; first | omega | (simp; done) | (simp; omega)) | ((simp only [List.setIfInBounds_toArray, List.set_cons_succ, List.set_cons_zero]); (with_reducible exact rfl)) | (with_reducible exact rfl) | (show (_ : Array Value) = _; exact rfl))), by (repeat' (first | (with_reducible (first | assumption | exact Blk.alloc_new _ _ _ (by first | rfl | (simp; done) | omega) | apply Blk.drewN | apply Blk.drew | apply Blk.alloc_old | apply Blk.set_same | apply Blk.set_other)) | (show (_ : Nat) ≠ _; first | omega | (simp; done) | (simp; omega)) | ((simp only [List.setIfInBounds_toArray, List.set_cons_succ, List.set_cons_zero]); (with_reducible exact rfl)) | (with_reducible exact rfl) | (show (_ : Array Value) = _; exact rfl)))⟩ ?_
            rintro v15 ⟨gv15, Cv15, Bv15, Zv15, Sv15, Mv15, Yv15⟩
            have qC15 := blk_calm Cv15
            have qB15 := blk_calm Bv15
            have qZ15 := blk_calm Zv15
            have qS15 := blk_calm Sv15
            have qM15 := blk_calm Mv15
            have qY15 := blk_calm Yv15
            refine wp_region_quiet_below (by kernel_rfl) (by kernel_rfl) ?_
            repeat (go_big_quiet_step ((first
                | (go_at_call 25; (with_reducible exact Calls.regrown_of (runreach q W tb _ oq W1 hqr'.out)))
                | (go_at_call 25; (with_reducible exact Calls.regrown_of (runreach r W ta _ or W1 Hta.out)))
                | (go_at_call 25; (with_reducible exact Calls.regrown_of (runreach s W tb _ os W1 Htb.out))))))
            refine wpQuiet_nil ?_
            intro _ hw'
            obtain ⟨pq, hw''⟩ := hw'
            subst hw''
            have hb15 := below_regrown v15 pq.d pq.os
            generalize Sort.grow (redrawn v15 pq.d) pq.os = w15 at *
            have C15 : Blk w15 (w.heap.size) #[.int .u64 m, .int .u64 d, .int .u64 n] 24 := Blk.below Cv15 hb15 Cv15.size
            have B15 : Blk w15 (w.heap.size + 1 + 1) #[.int .u64 xb, .int .u64 (hi (yb)), .int .u64 (lo (yb))] 28 := Blk.below Bv15 hb15 Bv15.size
            have Z15 : Blk w15 (w5.heap.size) #[.int .u64 r.f.X, .int .u64 (hi (r.f.Y)), .int .u64 (lo (r.f.Y)), .int .u64 r.f.M, .int .u64 r.t.X, .int .u64 (hi (r.t.Y)), .int .u64 (lo (r.t.Y)), .int .u64 r.t.M, .bool r.b] 40 := Blk.below Zv15 hb15 Zv15.size
            have S15 : Blk w15 (w6.heap.size) #[.int .u64 s.f.X, .int .u64 (hi (s.f.Y)), .int .u64 (lo (s.f.Y)), .int .u64 s.f.M, .int .u64 s.t.X, .int .u64 (hi (s.t.Y)), .int .u64 (lo (s.t.Y)), .int .u64 s.t.M, .bool s.b] 40 := Blk.below Sv15 hb15 Sv15.size
            have M15 : Blk w15 (w7.heap.size) #[.int .u64 q.f.X, .int .u64 (hi (q.f.Y)), .int .u64 (lo (q.f.Y)), .int .u64 q.f.M, .int .u64 q.t.X, .int .u64 (hi (q.t.Y)), .int .u64 (lo (q.t.Y)), .int .u64 q.t.M, .bool q.b] 40 := Blk.below Mv15 hb15 Mv15.size
            have Y15 : Blk w15 (PY) #[.int .u64 (hi (W)), .int .u64 (lo (W))] 26 := Blk.below Yv15 hb15 Yv15.size
            have g15 : Below w.heap.size w w15 := gv15.trans (hb15.mono gv15.size)
            have hz15 : w.heap.size ≤ w15.heap.size := g15.size
            clear hb15 gv15 Cv15 qC15 Bv15 qB15 Zv15 qZ15 Sv15 qS15 Mv15 qM15 Yv15 qY15
            replace cC := C15.cell
            replace fC := C15.frozen
            replace zC := C15.size
            replace cB := B15.cell
            replace fB := B15.frozen
            replace zB := B15.size
            replace cZ := Z15.cell
            replace fZ := Z15.frozen
            replace zZ := Z15.size
            replace cS := S15.cell
            replace fS := S15.frozen
            replace zS := S15.size
            replace cM := M15.cell
            replace fM := M15.frozen
            replace zM := M15.size
            replace cY := Y15.cell
            replace fY := Y15.frozen
            replace zY := Y15.size
            go_wp2
            go_roundw
            case rel => exact ⟨k + 1, by omega, by go_num, by (repeat' (first | (with_reducible (first | exact Below.refl _ _ | assumption | refine below_drewN ?_ _ | refine Below.drew ?_ | refine Below.alloc ?_ ?_ _ | refine Below.setCell ?_ ?_ _)) | go_size)), by (repeat' (first | (with_reducible (first | assumption | exact Blk.alloc_new _ _ _ (by first | rfl | (simp; done) | omega) | apply Blk.drewN | apply Blk.drew | apply Blk.alloc_old | apply Blk.set_same | apply Blk.set_other)) | (show (_ : Nat) ≠ _; first | omega | (simp; done) | (simp; omega)) | ((simp only [List.setIfInBounds_toArray, List.set_cons_succ, List.set_cons_zero]); (with_reducible exact rfl)) | (with_reducible exact rfl) | (show (_ : Array Value) = _; exact rfl))), by (repeat' (first | (with_reducible (first | assumption | exact Blk.alloc_new _ _ _ (by first | rfl | (simp; done) | omega) | apply Blk.drewN | apply Blk.drew | apply Blk.alloc_old | apply Blk.set_same | apply Blk.set_other)) | (show (_ : Nat) ≠ _; first | omega | (simp; done) | (simp; omega)) | ((simp only [List.setIfInBounds_toArray, List.set_cons_succ, List.set_cons_zero]); (with_reducible exact rfl)) | (with_reducible exact rfl) | (show (_ : Array Value) = _; exact rfl))), by (repeat' (first | (with_reducible (first | assumption | exact Blk.alloc_new _ _ _ (by first | rfl | (simp; done) | omega) | apply Blk.drewN | apply Blk.drew | apply Blk.alloc_old | apply Blk.set_same | apply Blk.set_other)) | (show (_ : Nat) ≠ _; first | omega | (simp; done) | (simp; omega)) | ((simp only [List.setIfInBounds_toArray, List.set_cons_succ, List.set_cons_zero]); (with_reducible exact rfl)) | (with_reducible exact rfl) | (show (_ : Array Value) = _; exact rfl))), by (repeat' (first | (with_reducible (first | assumption | exact Blk.alloc_new _ _ _ (by first | rfl | (simp; done) | omega) | apply Blk.drewN | apply Blk.drew | apply Blk.alloc_old | apply Blk.set_same | apply Blk.set_other)) | (show (_ : Nat) ≠ _; first | omega | (simp; done) | (simp; omega)) | ((simp only [List.setIfInBounds_toArray, List.set_cons_succ, List.set_cons_zero]); (with_reducible exact rfl)) | (with_reducible exact rfl) | (show (_ : Array Value) = _; exact rfl))), by (repeat' (first | (with_reducible (first | assumption | exact Blk.alloc_new _ _ _ (by first | rfl | (simp; done) | omega) | apply Blk.drewN | apply Blk.drew | apply Blk.alloc_old | apply Blk.set_same | apply Blk.set_other)) | (show (_ : Nat) ≠ _; first | omega | (simp; done) | (simp; omega)) | ((simp only [List.setIfInBounds_toArray, List.set_cons_succ, List.set_cons_zero]); (with_reducible exact rfl)) | (with_reducible exact rfl) | (show (_ : Array Value) = _; exact rfl)))⟩
            case measure => simp [intOf]; omega
        · have kc : decide (c1 < 0) = true := by rw [← Hc1.out]; unfold cmp; rw [if_pos hcl]; rfl
          have hqa' := hide (show q.at x = e0 by omega)
          have hqr' := hide (show q.reach W = ta by omega)
          clear hqa hqr hcl
          have ne1 := wneq e0 e0 false e01 e01 (by simp)
          have ne2 : (ta != ta) = false := by simp
          go_wp2_with fail
          try rw [hx]
          refine (runat r x p _ or xr Hp.out).mono ?_
          rintro e w10 ⟨rfl, hb10⟩
          have C10 : Blk w10 (w.heap.size) #[.int .u64 m, .int .u64 d, .int .u64 n] 24 := Blk.below (by (repeat' (first | (with_reducible (first | assumption | exact Blk.alloc_new _ _ _ (by first | rfl | (simp; done) | omega) | apply Blk.drewN | apply Blk.drew | apply Blk.alloc_old | apply Blk.set_same | apply Blk.set_other)) | (show (_ : Nat) ≠ _; first | omega | (simp; done) | (simp; omega)) | ((simp only [List.setIfInBounds_toArray, List.set_cons_succ, List.set_cons_zero]); (with_reducible exact rfl)) | (with_reducible exact rfl) | (show (_ : Array Value) = _; exact rfl)))) hb10 (by first | (simp; done) | omega | (simp; omega))
          have B10 : Blk w10 (w.heap.size + 1 + 1) #[.int .u64 xb, .int .u64 (hi (yb)), .int .u64 (lo (yb))] 28 := Blk.below (by (repeat' (first | (with_reducible (first | assumption | exact Blk.alloc_new _ _ _ (by first | rfl | (simp; done) | omega) | apply Blk.drewN | apply Blk.drew | apply Blk.alloc_old | apply Blk.set_same | apply Blk.set_other)) | (show (_ : Nat) ≠ _; first | omega | (simp; done) | (simp; omega)) | ((simp only [List.setIfInBounds_toArray, List.set_cons_succ, List.set_cons_zero]); (with_reducible exact rfl)) | (with_reducible exact rfl) | (show (_ : Array Value) = _; exact rfl)))) hb10 (by first | (simp; done) | omega | (simp; omega))
          have Z10 : Blk w10 (w5.heap.size) #[.int .u64 r.f.X, .int .u64 (hi (r.f.Y)), .int .u64 (lo (r.f.Y)), .int .u64 r.f.M, .int .u64 r.t.X, .int .u64 (hi (r.t.Y)), .int .u64 (lo (r.t.Y)), .int .u64 r.t.M, .bool r.b] 40 := Blk.below (by (repeat' (first | (with_reducible (first | assumption | exact Blk.alloc_new _ _ _ (by first | rfl | (simp; done) | omega) | apply Blk.drewN | apply Blk.drew | apply Blk.alloc_old | apply Blk.set_same | apply Blk.set_other)) | (show (_ : Nat) ≠ _; first | omega | (simp; done) | (simp; omega)) | ((simp only [List.setIfInBounds_toArray, List.set_cons_succ, List.set_cons_zero]); (with_reducible exact rfl)) | (with_reducible exact rfl) | (show (_ : Array Value) = _; exact rfl)))) hb10 (by first | (simp; done) | omega | (simp; omega))
          have S10 : Blk w10 (w6.heap.size) #[.int .u64 s.f.X, .int .u64 (hi (s.f.Y)), .int .u64 (lo (s.f.Y)), .int .u64 s.f.M, .int .u64 s.t.X, .int .u64 (hi (s.t.Y)), .int .u64 (lo (s.t.Y)), .int .u64 s.t.M, .bool s.b] 40 := Blk.below (by (repeat' (first | (with_reducible (first | assumption | exact Blk.alloc_new _ _ _ (by first | rfl | (simp; done) | omega) | apply Blk.drewN | apply Blk.drew | apply Blk.alloc_old | apply Blk.set_same | apply Blk.set_other)) | (show (_ : Nat) ≠ _; first | omega | (simp; done) | (simp; omega)) | ((simp only [List.setIfInBounds_toArray, List.set_cons_succ, List.set_cons_zero]); (with_reducible exact rfl)) | (with_reducible exact rfl) | (show (_ : Array Value) = _; exact rfl)))) hb10 (by first | (simp; done) | omega | (simp; omega))
          have M10 : Blk w10 (w7.heap.size) #[.int .u64 q.f.X, .int .u64 (hi (q.f.Y)), .int .u64 (lo (q.f.Y)), .int .u64 q.f.M, .int .u64 q.t.X, .int .u64 (hi (q.t.Y)), .int .u64 (lo (q.t.Y)), .int .u64 q.t.M, .bool q.b] 40 := Blk.below (by (repeat' (first | (with_reducible (first | assumption | exact Blk.alloc_new _ _ _ (by first | rfl | (simp; done) | omega) | apply Blk.drewN | apply Blk.drew | apply Blk.alloc_old | apply Blk.set_same | apply Blk.set_other)) | (show (_ : Nat) ≠ _; first | omega | (simp; done) | (simp; omega)) | ((simp only [List.setIfInBounds_toArray, List.set_cons_succ, List.set_cons_zero]); (with_reducible exact rfl)) | (with_reducible exact rfl) | (show (_ : Array Value) = _; exact rfl)))) hb10 (by first | (simp; done) | omega | (simp; omega))
          have g10 : Below w.heap.size w w10 := by refine Below.trans ?_ (hb10.mono ?_) <;> (repeat' (first | (with_reducible (first | exact Below.refl _ _ | assumption | refine below_drewN ?_ _ | refine Below.drew ?_ | refine Below.alloc ?_ ?_ _ | refine Below.setCell ?_ ?_ _)) | go_size))
          have hz10 := hb10.size
          (try simp at hz10)
          clear hb10
          replace cC := C10.cell
          replace fC := C10.frozen
          replace zC := C10.size
          replace cB := B10.cell
          replace fB := B10.frozen
          replace zB := B10.size
          replace cZ := Z10.cell
          replace fZ := Z10.frozen
          replace zZ := Z10.size
          replace cS := S10.cell
          replace fS := S10.frozen
          replace zS := S10.size
          replace cM := M10.cell
          replace fM := M10.frozen
          replace zM := M10.size
          go_wp2_with fail
          refine wp_forget (fun v => Below w.heap.size w v ∧ Blk v (w.heap.size) #[.int .u64 m, .int .u64 d, .int .u64 n] 24 ∧ Blk v (w.heap.size + 1 + 1) #[.int .u64 xb, .int .u64 (hi (yb)), .int .u64 (lo (yb))] 28 ∧ Blk v (w5.heap.size) #[.int .u64 r.f.X, .int .u64 (hi (r.f.Y)), .int .u64 (lo (r.f.Y)), .int .u64 r.f.M, .int .u64 r.t.X, .int .u64 (hi (r.t.Y)), .int .u64 (lo (r.t.Y)), .int .u64 r.t.M, .bool r.b] 40 ∧ Blk v (w6.heap.size) #[.int .u64 s.f.X, .int .u64 (hi (s.f.Y)), .int .u64 (lo (s.f.Y)), .int .u64 s.f.M, .int .u64 s.t.X, .int .u64 (hi (s.t.Y)), .int .u64 (lo (s.t.Y)), .int .u64 s.t.M, .bool s.b] 40 ∧ Blk v (w7.heap.size) #[.int .u64 q.f.X, .int .u64 (hi (q.f.Y)), .int .u64 (lo (q.f.Y)), .int .u64 q.f.M, .int .u64 q.t.X, .int .u64 (hi (q.t.Y)), .int .u64 (lo (q.t.Y)), .int .u64 q.t.M, .bool q.b] 40 ∧ Blk v (w10.heap.size) #[.int .u64 (hi (p)), .int .u64 (lo (p))] 26) ⟨by (repeat' (first | (with_reducible (first | exact Below.refl _ _ | assumption | refine below_drewN ?_ _ | refine Below.drew ?_ | refine Below.alloc ?_ ?_ _ | refine Below.setCell ?_ ?_ _)) | go_size)), by (repeat' (first | (with_reducible (first | assumption | exact Blk.alloc_new _ _ _ (by first | rfl | (simp; done) | omega) | apply Blk.drewN | apply Blk.drew | apply Blk.alloc_old | apply Blk.set_same | apply Blk.set_other)) | (show (_ : Nat) ≠ _; first | omega | (simp; done) | (simp; omega)) | ((simp only [List.setIfInBounds_toArray, List.set_cons_succ, List.set_cons_zero]); (with_reducible exact rfl)) | (with_reducible exact rfl) | (show (_ : Array Value) = _; exact rfl))), by (repeat' (first | (with_reducible (first | assumption | exact Blk.alloc_new _ _ _ (by first | rfl | (simp; done) | omega) | apply Blk.drewN | apply Blk.drew | apply Blk.alloc_old | apply Blk.set_same | apply Blk.set_other)) | (show (_ : Nat) ≠ _; first | omega | (simp; done) | (simp; omega)) | ((simp only [List.setIfInBounds_toArray, List.set_cons_succ, List.set_cons_zero]); (with_reducible exact rfl)) | (with_reducible exact rfl) | (show (_ : Array Value) = _; exact rfl))), by (repeat' (first | (with_reducible (first | assumption | exact Blk.alloc_new _ _ _ (by first | rfl | (simp; done) | omega) | apply Blk.drewN | apply Blk.drew | apply Blk.alloc_old | apply Blk.set_same | apply Blk.set_other)) | (show (_ : Nat) ≠ _; first | omega | (simp; done) | (simp; omega)) | ((simp only [List.setIfInBounds_toArray, List.set_cons_succ, List.set_cons_zero]); (with_reducible exact rfl)) | (with_reducible exact rfl) | (show (_ : Array Value) = _; exact rfl))), by (repeat' (first | (with_reducible (first | assumption | exact Blk.alloc_new _ _ _ (by first | rfl | (simp; done) | omega) | apply Blk.drewN | apply Blk.drew | apply Blk.alloc_old | apply Blk.set_same | apply Blk.set_other)) | (show (_ : Nat) ≠ _; first | omega | (simp; done) | (simp; omega)) | ((simp only [List.setIfInBounds_toArray, List.set_cons_succ, List.set_cons_zero]); (with_reducible exact rfl)) | (with_reducible exact rfl) | (show (_ : Array Value) = _; exact rfl))), by (repeat' (first | (with_reducible (first | assumption | exact Blk.alloc_new _ _ _ (by first | rfl | (simp; done) | omega) | apply Blk.drewN | apply Blk.drew | apply Blk.alloc_old | apply Blk.set_same | apply Blk.set_other)) | (show (_ : Nat) ≠ _; first | omega | (simp; done) | (simp; omega)) | ((simp only [List.setIfInBounds_toArray, List.set_cons_succ, List.set_cons_zero]); (with_reducible exact rfl)) | (with_reducible exact rfl) | (show (_ : Array Value) = _; exact rfl))), by (repeat' (first | (with_reducible (first | assumption | exact Blk.alloc_new _ _ _ (by first | rfl | (simp; done) | omega) | apply Blk.drewN | apply Blk.drew | apply Blk.alloc_old | apply Blk.set_same | apply Blk.set_other)) | (show (_ : Nat) ≠ _; first | omega | (simp; done) | (simp; omega)) | ((simp only [List.setIfInBounds_toArray, List.set_cons_succ, List.set_cons_zero]); (with_reducible exact rfl)) | (with_reducible exact rfl) | (show (_ : Array Value) = _; exact rfl)))⟩ ?_
          rintro v11 ⟨gv11, Cv11, Bv11, Zv11, Sv11, Mv11, Vv11⟩
          have qC11 := blk_calm Cv11
          have qB11 := blk_calm Bv11
          have qZ11 := blk_calm Zv11
          have qS11 := blk_calm Sv11
          have qM11 := blk_calm Mv11
          have qV11 := blk_calm Vv11
          refine wp_region_quiet_below (by kernel_rfl) (by kernel_rfl) ?_
          repeat (go_big_quiet_step ((first
              | (go_at_call 22; (with_reducible exact Calls.regrown_of (runat s x e0 _ os xr Hv.out)))
              | (go_at_call 23; (with_reducible exact Calls.regrown_of (wcmpC e0 p c1 _ e01 p1 Hc1.out))))))
          refine wpQuiet_nil ?_
          intro _ hw'
          obtain ⟨pq, hw''⟩ := hw'
          subst hw''
          have hb11 := below_regrown v11 pq.d pq.os
          generalize Sort.grow (redrawn v11 pq.d) pq.os = w11 at *
          have C11 : Blk w11 (w.heap.size) #[.int .u64 m, .int .u64 d, .int .u64 n] 24 := Blk.below Cv11 hb11 Cv11.size
          have B11 : Blk w11 (w.heap.size + 1 + 1) #[.int .u64 xb, .int .u64 (hi (yb)), .int .u64 (lo (yb))] 28 := Blk.below Bv11 hb11 Bv11.size
          have Z11 : Blk w11 (w5.heap.size) #[.int .u64 r.f.X, .int .u64 (hi (r.f.Y)), .int .u64 (lo (r.f.Y)), .int .u64 r.f.M, .int .u64 r.t.X, .int .u64 (hi (r.t.Y)), .int .u64 (lo (r.t.Y)), .int .u64 r.t.M, .bool r.b] 40 := Blk.below Zv11 hb11 Zv11.size
          have S11 : Blk w11 (w6.heap.size) #[.int .u64 s.f.X, .int .u64 (hi (s.f.Y)), .int .u64 (lo (s.f.Y)), .int .u64 s.f.M, .int .u64 s.t.X, .int .u64 (hi (s.t.Y)), .int .u64 (lo (s.t.Y)), .int .u64 s.t.M, .bool s.b] 40 := Blk.below Sv11 hb11 Sv11.size
          have M11 : Blk w11 (w7.heap.size) #[.int .u64 q.f.X, .int .u64 (hi (q.f.Y)), .int .u64 (lo (q.f.Y)), .int .u64 q.f.M, .int .u64 q.t.X, .int .u64 (hi (q.t.Y)), .int .u64 (lo (q.t.Y)), .int .u64 q.t.M, .bool q.b] 40 := Blk.below Mv11 hb11 Mv11.size
          have V11 : Blk w11 (w10.heap.size) #[.int .u64 (hi (p)), .int .u64 (lo (p))] 26 := Blk.below Vv11 hb11 Vv11.size
          have g11 : Below w.heap.size w w11 := gv11.trans (hb11.mono gv11.size)
          have hz11 : w.heap.size ≤ w11.heap.size := g11.size
          clear hb11 gv11 Cv11 qC11 Bv11 qB11 Zv11 qZ11 Sv11 qS11 Mv11 qM11 Vv11 qV11
          replace cC := C11.cell
          replace fC := C11.frozen
          replace zC := C11.size
          replace cB := B11.cell
          replace fB := B11.frozen
          replace zB := B11.size
          replace cZ := Z11.cell
          replace fZ := Z11.frozen
          replace zZ := Z11.size
          replace cS := S11.cell
          replace fS := S11.frozen
          replace zS := S11.size
          replace cM := M11.cell
          replace fM := M11.frozen
          replace zM := M11.size
          have cV := V11.cell
          have fV := V11.frozen
          have zV := V11.size
          go_wp2_with fail
          refine (runat s x e0 _ os xr Hv.out).mono ?_
          rintro e w12 ⟨rfl, hb12⟩
          have C12 : Blk w12 (w.heap.size) #[.int .u64 m, .int .u64 d, .int .u64 n] 24 := Blk.below (by (repeat' (first | (with_reducible (first | assumption | exact Blk.alloc_new _ _ _ (by first | rfl | (simp; done) | omega) | apply Blk.drewN | apply Blk.drew | apply Blk.alloc_old | apply Blk.set_same | apply Blk.set_other)) | (show (_ : Nat) ≠ _; first | omega | (simp; done) | (simp; omega)) | ((simp only [List.setIfInBounds_toArray, List.set_cons_succ, List.set_cons_zero]); (with_reducible exact rfl)) | (with_reducible exact rfl) | (show (_ : Array Value) = _; exact rfl)))) hb12 (by first | (simp; done) | omega | (simp; omega))
          have B12 : Blk w12 (w.heap.size + 1 + 1) #[.int .u64 xb, .int .u64 (hi (yb)), .int .u64 (lo (yb))] 28 := Blk.below (by (repeat' (first | (with_reducible (first | assumption | exact Blk.alloc_new _ _ _ (by first | rfl | (simp; done) | omega) | apply Blk.drewN | apply Blk.drew | apply Blk.alloc_old | apply Blk.set_same | apply Blk.set_other)) | (show (_ : Nat) ≠ _; first | omega | (simp; done) | (simp; omega)) | ((simp only [List.setIfInBounds_toArray, List.set_cons_succ, List.set_cons_zero]); (with_reducible exact rfl)) | (with_reducible exact rfl) | (show (_ : Array Value) = _; exact rfl)))) hb12 (by first | (simp; done) | omega | (simp; omega))
          have Z12 : Blk w12 (w5.heap.size) #[.int .u64 r.f.X, .int .u64 (hi (r.f.Y)), .int .u64 (lo (r.f.Y)), .int .u64 r.f.M, .int .u64 r.t.X, .int .u64 (hi (r.t.Y)), .int .u64 (lo (r.t.Y)), .int .u64 r.t.M, .bool r.b] 40 := Blk.below (by (repeat' (first | (with_reducible (first | assumption | exact Blk.alloc_new _ _ _ (by first | rfl | (simp; done) | omega) | apply Blk.drewN | apply Blk.drew | apply Blk.alloc_old | apply Blk.set_same | apply Blk.set_other)) | (show (_ : Nat) ≠ _; first | omega | (simp; done) | (simp; omega)) | ((simp only [List.setIfInBounds_toArray, List.set_cons_succ, List.set_cons_zero]); (with_reducible exact rfl)) | (with_reducible exact rfl) | (show (_ : Array Value) = _; exact rfl)))) hb12 (by first | (simp; done) | omega | (simp; omega))
          have S12 : Blk w12 (w6.heap.size) #[.int .u64 s.f.X, .int .u64 (hi (s.f.Y)), .int .u64 (lo (s.f.Y)), .int .u64 s.f.M, .int .u64 s.t.X, .int .u64 (hi (s.t.Y)), .int .u64 (lo (s.t.Y)), .int .u64 s.t.M, .bool s.b] 40 := Blk.below (by (repeat' (first | (with_reducible (first | assumption | exact Blk.alloc_new _ _ _ (by first | rfl | (simp; done) | omega) | apply Blk.drewN | apply Blk.drew | apply Blk.alloc_old | apply Blk.set_same | apply Blk.set_other)) | (show (_ : Nat) ≠ _; first | omega | (simp; done) | (simp; omega)) | ((simp only [List.setIfInBounds_toArray, List.set_cons_succ, List.set_cons_zero]); (with_reducible exact rfl)) | (with_reducible exact rfl) | (show (_ : Array Value) = _; exact rfl)))) hb12 (by first | (simp; done) | omega | (simp; omega))
          have M12 : Blk w12 (w7.heap.size) #[.int .u64 q.f.X, .int .u64 (hi (q.f.Y)), .int .u64 (lo (q.f.Y)), .int .u64 q.f.M, .int .u64 q.t.X, .int .u64 (hi (q.t.Y)), .int .u64 (lo (q.t.Y)), .int .u64 q.t.M, .bool q.b] 40 := Blk.below (by (repeat' (first | (with_reducible (first | assumption | exact Blk.alloc_new _ _ _ (by first | rfl | (simp; done) | omega) | apply Blk.drewN | apply Blk.drew | apply Blk.alloc_old | apply Blk.set_same | apply Blk.set_other)) | (show (_ : Nat) ≠ _; first | omega | (simp; done) | (simp; omega)) | ((simp only [List.setIfInBounds_toArray, List.set_cons_succ, List.set_cons_zero]); (with_reducible exact rfl)) | (with_reducible exact rfl) | (show (_ : Array Value) = _; exact rfl)))) hb12 (by first | (simp; done) | omega | (simp; omega))
          have V12 : Blk w12 (w10.heap.size) #[.int .u64 (hi (p)), .int .u64 (lo (p))] 26 := Blk.below (by (repeat' (first | (with_reducible (first | assumption | exact Blk.alloc_new _ _ _ (by first | rfl | (simp; done) | omega) | apply Blk.drewN | apply Blk.drew | apply Blk.alloc_old | apply Blk.set_same | apply Blk.set_other)) | (show (_ : Nat) ≠ _; first | omega | (simp; done) | (simp; omega)) | ((simp only [List.setIfInBounds_toArray, List.set_cons_succ, List.set_cons_zero]); (with_reducible exact rfl)) | (with_reducible exact rfl) | (show (_ : Array Value) = _; exact rfl)))) hb12 (by first | (simp; done) | omega | (simp; omega))
          have g12 : Below w.heap.size w w12 := by refine Below.trans ?_ (hb12.mono ?_) <;> (repeat' (first | (with_reducible (first | exact Below.refl _ _ | assumption | refine below_drewN ?_ _ | refine Below.drew ?_ | refine Below.alloc ?_ ?_ _ | refine Below.setCell ?_ ?_ _)) | go_size))
          have hz12 := hb12.size
          (try simp at hz12)
          clear hb12
          replace cC := C12.cell
          replace fC := C12.frozen
          replace zC := C12.size
          replace cB := B12.cell
          replace fB := B12.frozen
          replace zB := B12.size
          replace cZ := Z12.cell
          replace fZ := Z12.frozen
          replace zZ := Z12.size
          replace cS := S12.cell
          replace fS := S12.frozen
          replace zS := S12.size
          replace cM := M12.cell
          replace fM := M12.frozen
          replace zM := M12.size
          replace cV := V12.cell
          replace fV := V12.frozen
          replace zV := V12.size
          go_wp2_with fail
          refine wp_forget (fun v => Below w.heap.size w v ∧ Blk v (w.heap.size) #[.int .u64 m, .int .u64 d, .int .u64 n] 24 ∧ Blk v (w.heap.size + 1 + 1) #[.int .u64 xb, .int .u64 (hi (yb)), .int .u64 (lo (yb))] 28 ∧ Blk v (w5.heap.size) #[.int .u64 r.f.X, .int .u64 (hi (r.f.Y)), .int .u64 (lo (r.f.Y)), .int .u64 r.f.M, .int .u64 r.t.X, .int .u64 (hi (r.t.Y)), .int .u64 (lo (r.t.Y)), .int .u64 r.t.M, .bool r.b] 40 ∧ Blk v (w6.heap.size) #[.int .u64 s.f.X, .int .u64 (hi (s.f.Y)), .int .u64 (lo (s.f.Y)), .int .u64 s.f.M, .int .u64 s.t.X, .int .u64 (hi (s.t.Y)), .int .u64 (lo (s.t.Y)), .int .u64 s.t.M, .bool s.b] 40 ∧ Blk v (w7.heap.size) #[.int .u64 q.f.X, .int .u64 (hi (q.f.Y)), .int .u64 (lo (q.f.Y)), .int .u64 q.f.M, .int .u64 q.t.X, .int .u64 (hi (q.t.Y)), .int .u64 (lo (q.t.Y)), .int .u64 q.t.M, .bool q.b] 40 ∧ Blk v (w10.heap.size) #[.int .u64 (hi (e0)), .int .u64 (lo (e0))] 26) ⟨by (repeat' (first | (with_reducible (first | exact Below.refl _ _ | assumption | refine below_drewN ?_ _ | refine Below.drew ?_ | refine Below.alloc ?_ ?_ _ | refine Below.setCell ?_ ?_ _)) | go_size)), by (repeat' (first | (with_reducible (first | assumption | exact Blk.alloc_new _ _ _ (by first | rfl | (simp; done) | omega) | apply Blk.drewN | apply Blk.drew | apply Blk.alloc_old | apply Blk.set_same | apply Blk.set_other)) | (show (_ : Nat) ≠ _; first | omega | (simp; done) | (simp; omega)) | ((simp only [List.setIfInBounds_toArray, List.set_cons_succ, List.set_cons_zero]); (with_reducible exact rfl)) | (with_reducible exact rfl) | (show (_ : Array Value) = _; exact rfl))), by (repeat' (first | (with_reducible (first | assumption | exact Blk.alloc_new _ _ _ (by first | rfl | (simp; done) | omega) | apply Blk.drewN | apply Blk.drew | apply Blk.alloc_old | apply Blk.set_same | apply Blk.set_other)) | (show (_ : Nat) ≠ _; first | omega | (simp; done) | (simp; omega)) | ((simp only [List.setIfInBounds_toArray, List.set_cons_succ, List.set_cons_zero]); (with_reducible exact rfl)) | (with_reducible exact rfl) | (show (_ : Array Value) = _; exact rfl))), by (repeat' (first | (with_reducible (first | assumption | exact Blk.alloc_new _ _ _ (by first | rfl | (simp; done) | omega) | apply Blk.drewN | apply Blk.drew | apply Blk.alloc_old | apply Blk.set_same | apply Blk.set_other)) | (show (_ : Nat) ≠ _; first | omega | (simp; done) | (simp; omega)) | ((simp only [List.setIfInBounds_toArray, List.set_cons_succ, List.set_cons_zero]); (with_reducible exact rfl)) | (with_reducible exact rfl) | (show (_ : Array Value) = _; exact rfl))), by (repeat' (first | (with_reducible (first | assumption | exact Blk.alloc_new _ _ _ (by first | rfl | (simp; done) | omega) | apply Blk.drewN | apply Blk.drew | apply Blk.alloc_old | apply Blk.set_same | apply Blk.set_other)) | (show (_ : Nat) ≠ _; first | omega | (simp; done) | (simp; omega)) | ((simp only [List.setIfInBounds_toArray, List.set_cons_succ, List.set_cons_zero]); (with_reducible exact rfl)) | (with_reducible exact rfl) | (show (_ : Array Value) = _; exact rfl))), by (repeat' (first | (with_reducible (first | assumption | exact Blk.alloc_new _ _ _ (by first | rfl | (simp; done) | omega) | apply Blk.drewN | apply Blk.drew | apply Blk.alloc_old | apply Blk.set_same | apply Blk.set_other)) | (show (_ : Nat) ≠ _; first | omega | (simp; done) | (simp; omega)) | ((simp only [List.setIfInBounds_toArray, List.set_cons_succ, List.set_cons_zero]); (with_reducible exact rfl)) | (with_reducible exact rfl) | (show (_ : Array Value) = _; exact rfl))), by (repeat' (first | (with_reducible (first | assumption | exact Blk.alloc_new _ _ _ (by first | rfl | (simp; done) | omega) | apply Blk.drewN | apply Blk.drew | apply Blk.alloc_old | apply Blk.set_same | apply Blk.set_other)) | (show (_ : Nat) ≠ _; first | omega | (simp; done) | (simp; omega)) | ((simp only [List.setIfInBounds_toArray, List.set_cons_succ, List.set_cons_zero]); (with_reducible exact rfl)) | (with_reducible exact rfl) | (show (_ : Array Value) = _; exact rfl)))⟩ ?_
          rintro v13 ⟨gv13, Cv13, Bv13, Zv13, Sv13, Mv13, Vv13⟩
          have qC13 := blk_calm Cv13
          have qB13 := blk_calm Bv13
          have qZ13 := blk_calm Zv13
          have qS13 := blk_calm Sv13
          have qM13 := blk_calm Mv13
          have qV13 := blk_calm Vv13
          refine wp_region_quiet_below (by kernel_rfl) (by kernel_rfl) ?_
          repeat (go_big_quiet_step ((first
              | (go_at_call 22; (with_reducible exact Calls.regrown_of (runat q x e0 _ oq xr hqa'.out))))))
          refine wpQuiet_nil ?_
          intro _ hw'
          obtain ⟨pq, hw''⟩ := hw'
          subst hw''
          have hb13 := below_regrown v13 pq.d pq.os
          generalize Sort.grow (redrawn v13 pq.d) pq.os = w13 at *
          have C13 : Blk w13 (w.heap.size) #[.int .u64 m, .int .u64 d, .int .u64 n] 24 := Blk.below Cv13 hb13 Cv13.size
          have B13 : Blk w13 (w.heap.size + 1 + 1) #[.int .u64 xb, .int .u64 (hi (yb)), .int .u64 (lo (yb))] 28 := Blk.below Bv13 hb13 Bv13.size
          have Z13 : Blk w13 (w5.heap.size) #[.int .u64 r.f.X, .int .u64 (hi (r.f.Y)), .int .u64 (lo (r.f.Y)), .int .u64 r.f.M, .int .u64 r.t.X, .int .u64 (hi (r.t.Y)), .int .u64 (lo (r.t.Y)), .int .u64 r.t.M, .bool r.b] 40 := Blk.below Zv13 hb13 Zv13.size
          have S13 : Blk w13 (w6.heap.size) #[.int .u64 s.f.X, .int .u64 (hi (s.f.Y)), .int .u64 (lo (s.f.Y)), .int .u64 s.f.M, .int .u64 s.t.X, .int .u64 (hi (s.t.Y)), .int .u64 (lo (s.t.Y)), .int .u64 s.t.M, .bool s.b] 40 := Blk.below Sv13 hb13 Sv13.size
          have M13 : Blk w13 (w7.heap.size) #[.int .u64 q.f.X, .int .u64 (hi (q.f.Y)), .int .u64 (lo (q.f.Y)), .int .u64 q.f.M, .int .u64 q.t.X, .int .u64 (hi (q.t.Y)), .int .u64 (lo (q.t.Y)), .int .u64 q.t.M, .bool q.b] 40 := Blk.below Mv13 hb13 Mv13.size
          have V13 : Blk w13 (w10.heap.size) #[.int .u64 (hi (e0)), .int .u64 (lo (e0))] 26 := Blk.below Vv13 hb13 Vv13.size
          have g13 : Below w.heap.size w w13 := gv13.trans (hb13.mono gv13.size)
          have hz13 : w.heap.size ≤ w13.heap.size := g13.size
          clear hb13 gv13 Cv13 qC13 Bv13 qB13 Zv13 qZ13 Sv13 qS13 Mv13 qM13 Vv13 qV13
          replace cC := C13.cell
          replace fC := C13.frozen
          replace zC := C13.size
          replace cB := B13.cell
          replace fB := B13.frozen
          replace zB := B13.size
          replace cZ := Z13.cell
          replace fZ := Z13.frozen
          replace zZ := Z13.size
          replace cS := S13.cell
          replace fS := S13.frozen
          replace zS := S13.size
          replace cM := M13.cell
          replace fM := M13.frozen
          replace zM := M13.size
          replace cV := V13.cell
          replace fV := V13.frozen
          replace zV := V13.size
          go_upto_region 15 with (fail)
          go_cut [13, 14] (fun p13 p14 wx => ∃ X, p13 = .pointer (some ⟨X, 0, none⟩) ∧ p14 = .bool false ∧ Below w.heap.size w wx ∧ Blk wx (w.heap.size) #[.int .u64 m, .int .u64 d, .int .u64 n] 24 ∧ Blk wx (w.heap.size + 1 + 1) #[.int .u64 xb, .int .u64 (hi (yb)), .int .u64 (lo (yb))] 28 ∧ Blk wx (w5.heap.size) #[.int .u64 r.f.X, .int .u64 (hi (r.f.Y)), .int .u64 (lo (r.f.Y)), .int .u64 r.f.M, .int .u64 r.t.X, .int .u64 (hi (r.t.Y)), .int .u64 (lo (r.t.Y)), .int .u64 r.t.M, .bool r.b] 40 ∧ Blk wx (w6.heap.size) #[.int .u64 s.f.X, .int .u64 (hi (s.f.Y)), .int .u64 (lo (s.f.Y)), .int .u64 s.f.M, .int .u64 s.t.X, .int .u64 (hi (s.t.Y)), .int .u64 (lo (s.t.Y)), .int .u64 s.t.M, .bool s.b] 40 ∧ Blk wx (w7.heap.size) #[.int .u64 q.f.X, .int .u64 (hi (q.f.Y)), .int .u64 (lo (q.f.Y)), .int .u64 q.f.M, .int .u64 q.t.X, .int .u64 (hi (q.t.Y)), .int .u64 (lo (q.t.Y)), .int .u64 q.t.M, .bool q.b] 40 ∧ Blk wx X #[.int .u64 (hi (W)), .int .u64 (lo (W))] 26)
          case first =>
            go_region_held3 (fun v => (∀ i, v.cell? ⟨w.heap.size, i, none⟩ = #[.int .u64 m, .int .u64 d, .int .u64 n][i]?) ∧ w.heap.size < v.heap.size ∧ Blk v (w.heap.size) #[.int .u64 m, .int .u64 d, .int .u64 n] 24 ∧ (∀ i, v.cell? ⟨w.heap.size + 1 + 1, i, none⟩ = #[.int .u64 xb, .int .u64 (hi (yb)), .int .u64 (lo (yb))][i]?) ∧ w.heap.size + 1 + 1 < v.heap.size ∧ Blk v (w.heap.size + 1 + 1) #[.int .u64 xb, .int .u64 (hi (yb)), .int .u64 (lo (yb))] 28 ∧ (∀ i, v.cell? ⟨w5.heap.size, i, none⟩ = #[.int .u64 r.f.X, .int .u64 (hi (r.f.Y)), .int .u64 (lo (r.f.Y)), .int .u64 r.f.M, .int .u64 r.t.X, .int .u64 (hi (r.t.Y)), .int .u64 (lo (r.t.Y)), .int .u64 r.t.M, .bool r.b][i]?) ∧ w5.heap.size < v.heap.size ∧ Blk v (w5.heap.size) #[.int .u64 r.f.X, .int .u64 (hi (r.f.Y)), .int .u64 (lo (r.f.Y)), .int .u64 r.f.M, .int .u64 r.t.X, .int .u64 (hi (r.t.Y)), .int .u64 (lo (r.t.Y)), .int .u64 r.t.M, .bool r.b] 40 ∧ (∀ i, v.cell? ⟨w6.heap.size, i, none⟩ = #[.int .u64 s.f.X, .int .u64 (hi (s.f.Y)), .int .u64 (lo (s.f.Y)), .int .u64 s.f.M, .int .u64 s.t.X, .int .u64 (hi (s.t.Y)), .int .u64 (lo (s.t.Y)), .int .u64 s.t.M, .bool s.b][i]?) ∧ w6.heap.size < v.heap.size ∧ Blk v (w6.heap.size) #[.int .u64 s.f.X, .int .u64 (hi (s.f.Y)), .int .u64 (lo (s.f.Y)), .int .u64 s.f.M, .int .u64 s.t.X, .int .u64 (hi (s.t.Y)), .int .u64 (lo (s.t.Y)), .int .u64 s.t.M, .bool s.b] 40 ∧ (∀ i, v.cell? ⟨w7.heap.size, i, none⟩ = #[.int .u64 q.f.X, .int .u64 (hi (q.f.Y)), .int .u64 (lo (q.f.Y)), .int .u64 q.f.M, .int .u64 q.t.X, .int .u64 (hi (q.t.Y)), .int .u64 (lo (q.t.Y)), .int .u64 q.t.M, .bool q.b][i]?) ∧ w7.heap.size < v.heap.size ∧ Blk v (w7.heap.size) #[.int .u64 q.f.X, .int .u64 (hi (q.f.Y)), .int .u64 (lo (q.f.Y)), .int .u64 q.f.M, .int .u64 q.t.X, .int .u64 (hi (q.t.Y)), .int .u64 (lo (q.t.Y)), .int .u64 q.t.M, .bool q.b] 40 ∧ Below w.heap.size w v)
              (first
                | (refine ⟨?_, ?_, ?_, ?_, ?_, ?_, ?_, ?_, ?_, ?_, ?_, ?_, ?_, ?_, ?_, ?_⟩ <;> first | (with_reducible assumption) | ((repeat' (first | (with_reducible (first | assumption | exact Blk.alloc_new _ _ _ (by first | rfl | (simp; done) | omega) | apply Blk.drewN | apply Blk.drew | apply Blk.alloc_old | apply Blk.set_same | apply Blk.set_other)) | (show (_ : Nat) ≠ _; first | omega | (simp; done) | (simp; omega)) | ((simp only [List.setIfInBounds_toArray, List.set_cons_succ, List.set_cons_zero]); (with_reducible exact rfl)) | (with_reducible exact rfl) | (show (_ : Array Value) = _; exact rfl))); done) | ((repeat' (first | (with_reducible (first | exact Below.refl _ _ | assumption | refine below_drewN ?_ _ | refine Below.drew ?_ | refine Below.alloc ?_ ?_ _ | refine Below.setCell ?_ ?_ _)) | go_size)); done) | omega | (go_simp; done) | (simp; done) | (exact Blk.cell (by (repeat' (first | (with_reducible (first | assumption | exact Blk.alloc_new _ _ _ (by first | rfl | (simp; done) | omega) | apply Blk.drewN | apply Blk.drew | apply Blk.alloc_old | apply Blk.set_same | apply Blk.set_other)) | (show (_ : Nat) ≠ _; first | omega | (simp; done) | (simp; omega)) | ((simp only [List.setIfInBounds_toArray, List.set_cons_succ, List.set_cons_zero]); (with_reducible exact rfl)) | (with_reducible exact rfl) | (show (_ : Array Value) = _; exact rfl)))))))
              (first
                | (go_at_call 24; (with_reducible refine (wOfW _ (1 + k4) _ (by first | rfl | (simp only [hw0, hk4, hw8, hw5, hw6]; done) | (simp [hw0, hk4, hw8, hw5, hw6]; done) | (trace_state; fail)) (by omega) (by omega)).mono ?_); rintro e w' ⟨rfl, hb'⟩; have hbx : Below w.heap.size w w' := (by refine Below.trans ?_ (Below.mono hb' ?_) <;> (repeat' (first | (with_reducible (first | exact Below.refl _ _ | assumption | refine below_drewN ?_ _ | refine Below.drew ?_ | refine Below.alloc ?_ ?_ _ | refine Below.setCell ?_ ?_ _)) | go_size))); have hbs := hb'.size; (try simp at hbs); (try (first | have hX := Blk.below (Blk.alloc_new _ _ _ rfl) hb' (by first | (simp; done) | omega | (simp; omega)) | have hX := Blk.below (Blk.drew (Blk.alloc_new _ _ _ rfl)) hb' (by first | (simp; done) | omega | (simp; omega)) | have hX := Blk.below hX hb' (by first | (simp; done) | omega | (simp; omega)) | have hX := Blk.below hX.drew hb' (by first | (simp; done) | omega | (simp; omega)))); (try simp only [World.size_alloc] at hX); (try (have cX := hX.cell; have fX := hX.frozen; have zX := hX.size)); have hkC : Blk w' (w.heap.size) #[.int .u64 m, .int .u64 d, .int .u64 n] 24 := Blk.below (by (repeat' (first | (with_reducible (first | assumption | exact Blk.alloc_new _ _ _ (by first | rfl | (simp; done) | omega) | apply Blk.drewN | apply Blk.drew | apply Blk.alloc_old | apply Blk.set_same | apply Blk.set_other)) | (show (_ : Nat) ≠ _; first | omega | (simp; done) | (simp; omega)) | ((simp only [List.setIfInBounds_toArray, List.set_cons_succ, List.set_cons_zero]); (with_reducible exact rfl)) | (with_reducible exact rfl) | (show (_ : Array Value) = _; exact rfl)))) hb' (by first | (simp; done) | omega | (simp; omega)); have hqC := hkC.cell; have hzC := hkC.size; have hkB : Blk w' (w.heap.size + 1 + 1) #[.int .u64 xb, .int .u64 (hi (yb)), .int .u64 (lo (yb))] 28 := Blk.below (by (repeat' (first | (with_reducible (first | assumption | exact Blk.alloc_new _ _ _ (by first | rfl | (simp; done) | omega) | apply Blk.drewN | apply Blk.drew | apply Blk.alloc_old | apply Blk.set_same | apply Blk.set_other)) | (show (_ : Nat) ≠ _; first | omega | (simp; done) | (simp; omega)) | ((simp only [List.setIfInBounds_toArray, List.set_cons_succ, List.set_cons_zero]); (with_reducible exact rfl)) | (with_reducible exact rfl) | (show (_ : Array Value) = _; exact rfl)))) hb' (by first | (simp; done) | omega | (simp; omega)); have hqB := hkB.cell; have hzB := hkB.size; have hkZ : Blk w' (w5.heap.size) #[.int .u64 r.f.X, .int .u64 (hi (r.f.Y)), .int .u64 (lo (r.f.Y)), .int .u64 r.f.M, .int .u64 r.t.X, .int .u64 (hi (r.t.Y)), .int .u64 (lo (r.t.Y)), .int .u64 r.t.M, .bool r.b] 40 := Blk.below (by (repeat' (first | (with_reducible (first | assumption | exact Blk.alloc_new _ _ _ (by first | rfl | (simp; done) | omega) | apply Blk.drewN | apply Blk.drew | apply Blk.alloc_old | apply Blk.set_same | apply Blk.set_other)) | (show (_ : Nat) ≠ _; first | omega | (simp; done) | (simp; omega)) | ((simp only [List.setIfInBounds_toArray, List.set_cons_succ, List.set_cons_zero]); (with_reducible exact rfl)) | (with_reducible exact rfl) | (show (_ : Array Value) = _; exact rfl)))) hb' (by first | (simp; done) | omega | (simp; omega)); have hqZ := hkZ.cell; have hzZ := hkZ.size; have hkS : Blk w' (w6.heap.size) #[.int .u64 s.f.X, .int .u64 (hi (s.f.Y)), .int .u64 (lo (s.f.Y)), .int .u64 s.f.M, .int .u64 s.t.X, .int .u64 (hi (s.t.Y)), .int .u64 (lo (s.t.Y)), .int .u64 s.t.M, .bool s.b] 40 := Blk.below (by (repeat' (first | (with_reducible (first | assumption | exact Blk.alloc_new _ _ _ (by first | rfl | (simp; done) | omega) | apply Blk.drewN | apply Blk.drew | apply Blk.alloc_old | apply Blk.set_same | apply Blk.set_other)) | (show (_ : Nat) ≠ _; first | omega | (simp; done) | (simp; omega)) | ((simp only [List.setIfInBounds_toArray, List.set_cons_succ, List.set_cons_zero]); (with_reducible exact rfl)) | (with_reducible exact rfl) | (show (_ : Array Value) = _; exact rfl)))) hb' (by first | (simp; done) | omega | (simp; omega)); have hqS := hkS.cell; have hzS := hkS.size; have hkM : Blk w' (w7.heap.size) #[.int .u64 q.f.X, .int .u64 (hi (q.f.Y)), .int .u64 (lo (q.f.Y)), .int .u64 q.f.M, .int .u64 q.t.X, .int .u64 (hi (q.t.Y)), .int .u64 (lo (q.t.Y)), .int .u64 q.t.M, .bool q.b] 40 := Blk.below (by (repeat' (first | (with_reducible (first | assumption | exact Blk.alloc_new _ _ _ (by first | rfl | (simp; done) | omega) | apply Blk.drewN | apply Blk.drew | apply Blk.alloc_old | apply Blk.set_same | apply Blk.set_other)) | (show (_ : Nat) ≠ _; first | omega | (simp; done) | (simp; omega)) | ((simp only [List.setIfInBounds_toArray, List.set_cons_succ, List.set_cons_zero]); (with_reducible exact rfl)) | (with_reducible exact rfl) | (show (_ : Array Value) = _; exact rfl)))) hb' (by first | (simp; done) | omega | (simp; omega)); have hqM := hkM.cell; have hzM := hkM.size; clear hb')
                | (go_at_call 20; (with_reducible refine (wAddD yb (1 + k4) W _ hyb (by unfold In128; omega) HW.out W1).mono ?_); rintro e w' ⟨rfl, hb'⟩; have hbx : Below w.heap.size w w' := (by refine Below.trans ?_ (Below.mono hb' ?_) <;> (repeat' (first | (with_reducible (first | exact Below.refl _ _ | assumption | refine below_drewN ?_ _ | refine Below.drew ?_ | refine Below.alloc ?_ ?_ _ | refine Below.setCell ?_ ?_ _)) | go_size))); have hbs := hb'.size; (try simp at hbs); (try (first | have hX := Blk.below (Blk.alloc_new _ _ _ rfl) hb' (by first | (simp; done) | omega | (simp; omega)) | have hX := Blk.below (Blk.drew (Blk.alloc_new _ _ _ rfl)) hb' (by first | (simp; done) | omega | (simp; omega)) | have hX := Blk.below hX hb' (by first | (simp; done) | omega | (simp; omega)) | have hX := Blk.below hX.drew hb' (by first | (simp; done) | omega | (simp; omega)))); (try simp only [World.size_alloc] at hX); (try (have cX := hX.cell; have fX := hX.frozen; have zX := hX.size)); have hkC : Blk w' (w.heap.size) #[.int .u64 m, .int .u64 d, .int .u64 n] 24 := Blk.below (by (repeat' (first | (with_reducible (first | assumption | exact Blk.alloc_new _ _ _ (by first | rfl | (simp; done) | omega) | apply Blk.drewN | apply Blk.drew | apply Blk.alloc_old | apply Blk.set_same | apply Blk.set_other)) | (show (_ : Nat) ≠ _; first | omega | (simp; done) | (simp; omega)) | ((simp only [List.setIfInBounds_toArray, List.set_cons_succ, List.set_cons_zero]); (with_reducible exact rfl)) | (with_reducible exact rfl) | (show (_ : Array Value) = _; exact rfl)))) hb' (by first | (simp; done) | omega | (simp; omega)); have hqC := hkC.cell; have hzC := hkC.size; have hkB : Blk w' (w.heap.size + 1 + 1) #[.int .u64 xb, .int .u64 (hi (yb)), .int .u64 (lo (yb))] 28 := Blk.below (by (repeat' (first | (with_reducible (first | assumption | exact Blk.alloc_new _ _ _ (by first | rfl | (simp; done) | omega) | apply Blk.drewN | apply Blk.drew | apply Blk.alloc_old | apply Blk.set_same | apply Blk.set_other)) | (show (_ : Nat) ≠ _; first | omega | (simp; done) | (simp; omega)) | ((simp only [List.setIfInBounds_toArray, List.set_cons_succ, List.set_cons_zero]); (with_reducible exact rfl)) | (with_reducible exact rfl) | (show (_ : Array Value) = _; exact rfl)))) hb' (by first | (simp; done) | omega | (simp; omega)); have hqB := hkB.cell; have hzB := hkB.size; have hkZ : Blk w' (w5.heap.size) #[.int .u64 r.f.X, .int .u64 (hi (r.f.Y)), .int .u64 (lo (r.f.Y)), .int .u64 r.f.M, .int .u64 r.t.X, .int .u64 (hi (r.t.Y)), .int .u64 (lo (r.t.Y)), .int .u64 r.t.M, .bool r.b] 40 := Blk.below (by (repeat' (first | (with_reducible (first | assumption | exact Blk.alloc_new _ _ _ (by first | rfl | (simp; done) | omega) | apply Blk.drewN | apply Blk.drew | apply Blk.alloc_old | apply Blk.set_same | apply Blk.set_other)) | (show (_ : Nat) ≠ _; first | omega | (simp; done) | (simp; omega)) | ((simp only [List.setIfInBounds_toArray, List.set_cons_succ, List.set_cons_zero]); (with_reducible exact rfl)) | (with_reducible exact rfl) | (show (_ : Array Value) = _; exact rfl)))) hb' (by first | (simp; done) | omega | (simp; omega)); have hqZ := hkZ.cell; have hzZ := hkZ.size; have hkS : Blk w' (w6.heap.size) #[.int .u64 s.f.X, .int .u64 (hi (s.f.Y)), .int .u64 (lo (s.f.Y)), .int .u64 s.f.M, .int .u64 s.t.X, .int .u64 (hi (s.t.Y)), .int .u64 (lo (s.t.Y)), .int .u64 s.t.M, .bool s.b] 40 := Blk.below (by (repeat' (first | (with_reducible (first | assumption | exact Blk.alloc_new _ _ _ (by first | rfl | (simp; done) | omega) | apply Blk.drewN | apply Blk.drew | apply Blk.alloc_old | apply Blk.set_same | apply Blk.set_other)) | (show (_ : Nat) ≠ _; first | omega | (simp; done) | (simp; omega)) | ((simp only [List.setIfInBounds_toArray, List.set_cons_succ, List.set_cons_zero]); (with_reducible exact rfl)) | (with_reducible exact rfl) | (show (_ : Array Value) = _; exact rfl)))) hb' (by first | (simp; done) | omega | (simp; omega)); have hqS := hkS.cell; have hzS := hkS.size; have hkM : Blk w' (w7.heap.size) #[.int .u64 q.f.X, .int .u64 (hi (q.f.Y)), .int .u64 (lo (q.f.Y)), .int .u64 q.f.M, .int .u64 q.t.X, .int .u64 (hi (q.t.Y)), .int .u64 (lo (q.t.Y)), .int .u64 q.t.M, .bool q.b] 40 := Blk.below (by (repeat' (first | (with_reducible (first | assumption | exact Blk.alloc_new _ _ _ (by first | rfl | (simp; done) | omega) | apply Blk.drewN | apply Blk.drew | apply Blk.alloc_old | apply Blk.set_same | apply Blk.set_other)) | (show (_ : Nat) ≠ _; first | omega | (simp; done) | (simp; omega)) | ((simp only [List.setIfInBounds_toArray, List.set_cons_succ, List.set_cons_zero]); (with_reducible exact rfl)) | (with_reducible exact rfl) | (show (_ : Array Value) = _; exact rfl)))) hb' (by first | (simp; done) | omega | (simp; omega)); have hqM := hkM.cell; have hzM := hkM.size; clear hb'))
            all_goals
              go_wp2_with fail
              go_meet
              exact ⟨_, rfl, rfl, by (repeat' (first | (with_reducible (first | exact Below.refl _ _ | assumption | refine below_drewN ?_ _ | refine Below.drew ?_ | refine Below.alloc ?_ ?_ _ | refine Below.setCell ?_ ?_ _)) | go_size)), by (repeat' (first | (with_reducible (first | assumption | exact Blk.alloc_new _ _ _ (by first | rfl | (simp; done) | omega) | apply Blk.drewN | apply Blk.drew | apply Blk.alloc_old | apply Blk.set_same | apply Blk.set_other)) | (show (_ : Nat) ≠ _; first | omega | (simp; done) | (simp; omega)) | ((simp only [List.setIfInBounds_toArray, List.set_cons_succ, List.set_cons_zero]); (with_reducible exact rfl)) | (with_reducible exact rfl) | (show (_ : Array Value) = _; exact rfl))), by (repeat' (first | (with_reducible (first | assumption | exact Blk.alloc_new _ _ _ (by first | rfl | (simp; done) | omega) | apply Blk.drewN | apply Blk.drew | apply Blk.alloc_old | apply Blk.set_same | apply Blk.set_other)) | (show (_ : Nat) ≠ _; first | omega | (simp; done) | (simp; omega)) | ((simp only [List.setIfInBounds_toArray, List.set_cons_succ, List.set_cons_zero]); (with_reducible exact rfl)) | (with_reducible exact rfl) | (show (_ : Array Value) = _; exact rfl))), by (repeat' (first | (with_reducible (first | assumption | exact Blk.alloc_new _ _ _ (by first | rfl | (simp; done) | omega) | apply Blk.drewN | apply Blk.drew | apply Blk.alloc_old | apply Blk.set_same | apply Blk.set_other)) | (show (_ : Nat) ≠ _; first | omega | (simp; done) | (simp; omega)) | ((simp only [List.setIfInBounds_toArray, List.set_cons_succ, List.set_cons_zero]); (with_reducible exact rfl)) | (with_reducible exact rfl) | (show (_ : Array Value) = _; exact rfl))), by (repeat' (first | (with_reducible (first | assumption | exact Blk.alloc_new _ _ _ (by first | rfl | (simp; done) | omega) | apply Blk.drewN | apply Blk.drew | apply Blk.alloc_old | apply Blk.set_same | apply Blk.set_other)) | (show (_ : Nat) ≠ _; first | omega | (simp; done) | (simp; omega)) | ((simp only [List.setIfInBounds_toArray, List.set_cons_succ, List.set_cons_zero]); (with_reducible exact rfl)) | (with_reducible exact rfl) | (show (_ : Array Value) = _; exact rfl))), by (repeat' (first | (with_reducible (first | assumption | exact Blk.alloc_new _ _ _ (by first | rfl | (simp; done) | omega) | apply Blk.drewN | apply Blk.drew | apply Blk.alloc_old | apply Blk.set_same | apply Blk.set_other)) | (show (_ : Nat) ≠ _; first | omega | (simp; done) | (simp; omega)) | ((simp only [List.setIfInBounds_toArray, List.set_cons_succ, List.set_cons_zero]); (with_reducible exact rfl)) | (with_reducible exact rfl) | (show (_ : Array Value) = _; exact rfl))), by (repeat' (first | (with_reducible (first | assumption | exact Blk.alloc_new _ _ _ (by first | rfl | (simp; done) | omega) | apply Blk.drewN | apply Blk.drew | apply Blk.alloc_old | apply Blk.set_same | apply Blk.set_other)) | (show (_ : Nat) ≠ _; first | omega | (simp; done) | (simp; omega)) | ((simp only [List.setIfInBounds_toArray, List.set_cons_succ, List.set_cons_zero]); (with_reducible exact rfl)) | (with_reducible exact rfl) | (show (_ : Array Value) = _; exact rfl)))⟩
          case rest =>
            obtain ⟨PY, rfl, rfl, g14, C14, B14, Z14, S14, M14, Y14⟩ := hcut
            have hz14 := g14.size
            have cC := C14.cell; have fC := C14.frozen; have zC := C14.size
            have cB := B14.cell; have fB := B14.frozen; have zB := B14.size
            have cZ := Z14.cell; have fZ := Z14.frozen; have zZ := Z14.size
            have cS := S14.cell; have fS := S14.frozen; have zS := S14.size
            have cM := M14.cell; have fM := M14.frozen; have zM := M14.size
            have cY := Y14.cell; have fY := Y14.frozen; have zY := Y14.size
            go_wp2_with fail
            refine wp_forget (fun v => Below w.heap.size w v ∧ Blk v (w.heap.size) #[.int .u64 m, .int .u64 d, .int .u64 n] 24 ∧ Blk v (w.heap.size + 1 + 1) #[.int .u64 xb, .int .u64 (hi (yb)), .int .u64 (lo (yb))] 28 ∧ Blk v (w5.heap.size) #[.int .u64 r.f.X, .int .u64 (hi (r.f.Y)), .int .u64 (lo (r.f.Y)), .int .u64 r.f.M, .int .u64 r.t.X, .int .u64 (hi (r.t.Y)), .int .u64 (lo (r.t.Y)), .int .u64 r.t.M, .bool r.b] 40 ∧ Blk v (w6.heap.size) #[.int .u64 s.f.X, .int .u64 (hi (s.f.Y)), .int .u64 (lo (s.f.Y)), .int .u64 s.f.M, .int .u64 s.t.X, .int .u64 (hi (s.t.Y)), .int .u64 (lo (s.t.Y)), .int .u64 s.t.M, .bool s.b] 40 ∧ Blk v (w7.heap.size) #[.int .u64 q.f.X, .int .u64 (hi (q.f.Y)), .int .u64 (lo (q.f.Y)), .int .u64 q.f.M, .int .u64 q.t.X, .int .u64 (hi (q.t.Y)), .int .u64 (lo (q.t.Y)), .int .u64 q.t.M, .bool q.b] 40 ∧ Blk v (PY) #[.int .u64 (hi (W)), .int .u64 (lo (W))] 26) ⟨by (repeat' (first | (with_reducible (first | exact Below.refl _ _ | assumption | refine below_drewN ?_ _ | refine Below.drew ?_ | refine Below.alloc ?_ ?_ _ | refine Below.setCell ?_ ?_ _)) | go_size)), by (repeat' (first | (with_reducible (first | assumption | exact Blk.alloc_new _ _ _ (by first | rfl | (simp; done) | omega) | apply Blk.drewN | apply Blk.drew | apply Blk.alloc_old | apply Blk.set_same | apply Blk.set_other)) | (show (_ : Nat) ≠ _; first | omega | (simp; done) | (simp; omega)) | ((simp only [List.setIfInBounds_toArray, List.set_cons_succ, List.set_cons_zero]); (with_reducible exact rfl)) | (with_reducible exact rfl) | (show (_ : Array Value) = _; exact rfl))), by (repeat' (first | (with_reducible (first | assumption | exact Blk.alloc_new _ _ _ (by first | rfl | (simp; done) | omega) | apply Blk.drewN | apply Blk.drew | apply Blk.alloc_old | apply Blk.set_same | apply Blk.set_other)) | (show (_ : Nat) ≠ _; first | omega | (simp; done) | (simp; omega)) | ((simp only [List.setIfInBounds_toArray, List.set_cons_succ, List.set_cons_zero]); (with_reducible exact rfl)) | (with_reducible exact rfl) | (show (_ : Array Value) = _; exact rfl))), by (repeat' (first | (with_reducible (first | assumption | exact Blk.alloc_new _ _ _ (by first | rfl | (simp; done) | omega) | apply Blk.drewN | apply Blk.drew | apply Blk.alloc_old | apply Blk.set_same | apply Blk.set_other)) | (show (_ : Nat) ≠ _; first | omega | (simp; done) | (simp; omega)) | ((simp only [List.setIfInBounds_toArray, List.set_cons_succ, List.set_cons_zero]); (with_reducible exact rfl)) | (with_reducible exact rfl) | (show (_ : Array Value) = _; exact rfl))), by (repeat' (first | (with_reducible (first | assumption | exact Blk.alloc_new _ _ _ (by first | rfl | (simp; done) | omega) | apply Blk.drewN | apply Blk.drew | apply Blk.alloc_old | apply Blk.set_same | apply Blk.set_other)) | (show (_ : Nat) ≠ _; first | omega | (simp; done) | (simp; omega)) | ((simp only [List.setIfInBounds_toArray, List.set_cons_succ, List.set_cons_zero]); (with_reducible exact rfl)) | (with_reducible exact rfl) | (show (_ : Array Value) = _; exact rfl))), by (repeat' (first | (with_reducible (first | assumption | exact Blk.alloc_new _ _ _ (by first | rfl | (simp; done) | omega) | apply Blk.drewN | apply Blk.drew | apply Blk.alloc_old | apply Blk.set_same | apply Blk.set_other)) | (show (_ : Nat) ≠ _; first | omega | (simp; done) | (simp; omega)) | ((simp only [List.setIfInBounds_toArray, List.set_cons_succ, List.set_cons_zero]); (with_reducible exact rfl)) | (with_reducible exact rfl) | (show (_ : Array Value) = _; exact rfl))), by (repeat' (first | (with_reducible (first | assumption | exact Blk.alloc_new _ _ _ (by first | rfl | (simp; done) | omega) | apply Blk.drewN | apply Blk.drew | apply Blk.alloc_old | apply Blk.set_same | apply Blk.set_other)) | (show (_ : Nat) ≠ _; first | omega | (simp; done) | (simp; omega)) | ((simp only [List.setIfInBounds_toArray, List.set_cons_succ, List.set_cons_zero]); (with_reducible exact rfl)) | (with_reducible exact rfl) | (show (_ : Array Value) = _; exact rfl)))⟩ ?_
            rintro v15 ⟨gv15, Cv15, Bv15, Zv15, Sv15, Mv15, Yv15⟩
            have qC15 := blk_calm Cv15
            have qB15 := blk_calm Bv15
            have qZ15 := blk_calm Zv15
            have qS15 := blk_calm Sv15
            have qM15 := blk_calm Mv15
            have qY15 := blk_calm Yv15
            refine wp_region_quiet_below (by kernel_rfl) (by kernel_rfl) ?_
            repeat (go_big_quiet_step ((first
                | (go_at_call 25; (with_reducible exact Calls.regrown_of (runreach q W ta _ oq W1 hqr'.out)))
                | (go_at_call 25; (with_reducible exact Calls.regrown_of (runreach r W ta _ or W1 Hta.out)))
                | (go_at_call 25; (with_reducible exact Calls.regrown_of (runreach s W tb _ os W1 Htb.out))))))
            refine wpQuiet_nil ?_
            intro _ hw'
            obtain ⟨pq, hw''⟩ := hw'
            subst hw''
            have hb15 := below_regrown v15 pq.d pq.os
            generalize Sort.grow (redrawn v15 pq.d) pq.os = w15 at *
            have C15 : Blk w15 (w.heap.size) #[.int .u64 m, .int .u64 d, .int .u64 n] 24 := Blk.below Cv15 hb15 Cv15.size
            have B15 : Blk w15 (w.heap.size + 1 + 1) #[.int .u64 xb, .int .u64 (hi (yb)), .int .u64 (lo (yb))] 28 := Blk.below Bv15 hb15 Bv15.size
            have Z15 : Blk w15 (w5.heap.size) #[.int .u64 r.f.X, .int .u64 (hi (r.f.Y)), .int .u64 (lo (r.f.Y)), .int .u64 r.f.M, .int .u64 r.t.X, .int .u64 (hi (r.t.Y)), .int .u64 (lo (r.t.Y)), .int .u64 r.t.M, .bool r.b] 40 := Blk.below Zv15 hb15 Zv15.size
            have S15 : Blk w15 (w6.heap.size) #[.int .u64 s.f.X, .int .u64 (hi (s.f.Y)), .int .u64 (lo (s.f.Y)), .int .u64 s.f.M, .int .u64 s.t.X, .int .u64 (hi (s.t.Y)), .int .u64 (lo (s.t.Y)), .int .u64 s.t.M, .bool s.b] 40 := Blk.below Sv15 hb15 Sv15.size
            have M15 : Blk w15 (w7.heap.size) #[.int .u64 q.f.X, .int .u64 (hi (q.f.Y)), .int .u64 (lo (q.f.Y)), .int .u64 q.f.M, .int .u64 q.t.X, .int .u64 (hi (q.t.Y)), .int .u64 (lo (q.t.Y)), .int .u64 q.t.M, .bool q.b] 40 := Blk.below Mv15 hb15 Mv15.size
            have Y15 : Blk w15 (PY) #[.int .u64 (hi (W)), .int .u64 (lo (W))] 26 := Blk.below Yv15 hb15 Yv15.size
            have g15 : Below w.heap.size w w15 := gv15.trans (hb15.mono gv15.size)
            have hz15 : w.heap.size ≤ w15.heap.size := g15.size
            clear hb15 gv15 Cv15 qC15 Bv15 qB15 Zv15 qZ15 Sv15 qS15 Mv15 qM15 Yv15 qY15
            replace cC := C15.cell
            replace fC := C15.frozen
            replace zC := C15.size
            replace cB := B15.cell
            replace fB := B15.frozen
            replace zB := B15.size
            replace cZ := Z15.cell
            replace fZ := Z15.frozen
            replace zZ := Z15.size
            replace cS := S15.cell
            replace fS := S15.frozen
            replace zS := S15.size
            replace cM := M15.cell
            replace fM := M15.frozen
            replace zM := M15.size
            replace cY := Y15.cell
            replace fY := Y15.frozen
            replace zY := Y15.size
            go_wp2
            go_roundw
            case rel => exact ⟨k + 1, by omega, by go_num, by (repeat' (first | (with_reducible (first | exact Below.refl _ _ | assumption | refine below_drewN ?_ _ | refine Below.drew ?_ | refine Below.alloc ?_ ?_ _ | refine Below.setCell ?_ ?_ _)) | go_size)), by (repeat' (first | (with_reducible (first | assumption | exact Blk.alloc_new _ _ _ (by first | rfl | (simp; done) | omega) | apply Blk.drewN | apply Blk.drew | apply Blk.alloc_old | apply Blk.set_same | apply Blk.set_other)) | (show (_ : Nat) ≠ _; first | omega | (simp; done) | (simp; omega)) | ((simp only [List.setIfInBounds_toArray, List.set_cons_succ, List.set_cons_zero]); (with_reducible exact rfl)) | (with_reducible exact rfl) | (show (_ : Array Value) = _; exact rfl))), by (repeat' (first | (with_reducible (first | assumption | exact Blk.alloc_new _ _ _ (by first | rfl | (simp; done) | omega) | apply Blk.drewN | apply Blk.drew | apply Blk.alloc_old | apply Blk.set_same | apply Blk.set_other)) | (show (_ : Nat) ≠ _; first | omega | (simp; done) | (simp; omega)) | ((simp only [List.setIfInBounds_toArray, List.set_cons_succ, List.set_cons_zero]); (with_reducible exact rfl)) | (with_reducible exact rfl) | (show (_ : Array Value) = _; exact rfl))), by (repeat' (first | (with_reducible (first | assumption | exact Blk.alloc_new _ _ _ (by first | rfl | (simp; done) | omega) | apply Blk.drewN | apply Blk.drew | apply Blk.alloc_old | apply Blk.set_same | apply Blk.set_other)) | (show (_ : Nat) ≠ _; first | omega | (simp; done) | (simp; omega)) | ((simp only [List.setIfInBounds_toArray, List.set_cons_succ, List.set_cons_zero]); (with_reducible exact rfl)) | (with_reducible exact rfl) | (show (_ : Array Value) = _; exact rfl))), by (repeat' (first | (with_reducible (first | assumption | exact Blk.alloc_new _ _ _ (by first | rfl | (simp; done) | omega) | apply Blk.drewN | apply Blk.drew | apply Blk.alloc_old | apply Blk.set_same | apply Blk.set_other)) | (show (_ : Nat) ≠ _; first | omega | (simp; done) | (simp; omega)) | ((simp only [List.setIfInBounds_toArray, List.set_cons_succ, List.set_cons_zero]); (with_reducible exact rfl)) | (with_reducible exact rfl) | (show (_ : Array Value) = _; exact rfl))), by (repeat' (first | (with_reducible (first | assumption | exact Blk.alloc_new _ _ _ (by first | rfl | (simp; done) | omega) | apply Blk.drewN | apply Blk.drew | apply Blk.alloc_old | apply Blk.set_same | apply Blk.set_other)) | (show (_ : Nat) ≠ _; first | omega | (simp; done) | (simp; omega)) | ((simp only [List.setIfInBounds_toArray, List.set_cons_succ, List.set_cons_zero]); (with_reducible exact rfl)) | (with_reducible exact rfl) | (show (_ : Array Value) = _; exact rfl)))⟩
            case measure => simp [intOf]; omega
      · by_cases hcm : ta < tb
        · have kc : decide (c1 < 0) = false := by rw [← Hc1.out]; unfold cmp; rw [if_neg hcl]; split <;> rfl
          have hqa' := hide (show q.at x = p by omega)
          have hqr' := hide (show q.reach W = tb by omega)
          clear hqa hqr hcl
          have ne1 := wneq p p false p1 p1 (by simp)
          have ne2 : (tb != tb) = false := by simp
          go_wp2_with fail
          try rw [hx]
          refine (runat r x p _ or xr Hp.out).mono ?_
          rintro e w10 ⟨rfl, hb10⟩
          have C10 : Blk w10 (w.heap.size) #[.int .u64 m, .int .u64 d, .int .u64 n] 24 := Blk.below (by (repeat' (first | (with_reducible (first | assumption | exact Blk.alloc_new _ _ _ (by first | rfl | (simp; done) | omega) | apply Blk.drewN | apply Blk.drew | apply Blk.alloc_old | apply Blk.set_same | apply Blk.set_other)) | (show (_ : Nat) ≠ _; first | omega | (simp; done) | (simp; omega)) | ((simp only [List.setIfInBounds_toArray, List.set_cons_succ, List.set_cons_zero]); (with_reducible exact rfl)) | (with_reducible exact rfl) | (show (_ : Array Value) = _; exact rfl)))) hb10 (by first | (simp; done) | omega | (simp; omega))
          have B10 : Blk w10 (w.heap.size + 1 + 1) #[.int .u64 xb, .int .u64 (hi (yb)), .int .u64 (lo (yb))] 28 := Blk.below (by (repeat' (first | (with_reducible (first | assumption | exact Blk.alloc_new _ _ _ (by first | rfl | (simp; done) | omega) | apply Blk.drewN | apply Blk.drew | apply Blk.alloc_old | apply Blk.set_same | apply Blk.set_other)) | (show (_ : Nat) ≠ _; first | omega | (simp; done) | (simp; omega)) | ((simp only [List.setIfInBounds_toArray, List.set_cons_succ, List.set_cons_zero]); (with_reducible exact rfl)) | (with_reducible exact rfl) | (show (_ : Array Value) = _; exact rfl)))) hb10 (by first | (simp; done) | omega | (simp; omega))
          have Z10 : Blk w10 (w5.heap.size) #[.int .u64 r.f.X, .int .u64 (hi (r.f.Y)), .int .u64 (lo (r.f.Y)), .int .u64 r.f.M, .int .u64 r.t.X, .int .u64 (hi (r.t.Y)), .int .u64 (lo (r.t.Y)), .int .u64 r.t.M, .bool r.b] 40 := Blk.below (by (repeat' (first | (with_reducible (first | assumption | exact Blk.alloc_new _ _ _ (by first | rfl | (simp; done) | omega) | apply Blk.drewN | apply Blk.drew | apply Blk.alloc_old | apply Blk.set_same | apply Blk.set_other)) | (show (_ : Nat) ≠ _; first | omega | (simp; done) | (simp; omega)) | ((simp only [List.setIfInBounds_toArray, List.set_cons_succ, List.set_cons_zero]); (with_reducible exact rfl)) | (with_reducible exact rfl) | (show (_ : Array Value) = _; exact rfl)))) hb10 (by first | (simp; done) | omega | (simp; omega))
          have S10 : Blk w10 (w6.heap.size) #[.int .u64 s.f.X, .int .u64 (hi (s.f.Y)), .int .u64 (lo (s.f.Y)), .int .u64 s.f.M, .int .u64 s.t.X, .int .u64 (hi (s.t.Y)), .int .u64 (lo (s.t.Y)), .int .u64 s.t.M, .bool s.b] 40 := Blk.below (by (repeat' (first | (with_reducible (first | assumption | exact Blk.alloc_new _ _ _ (by first | rfl | (simp; done) | omega) | apply Blk.drewN | apply Blk.drew | apply Blk.alloc_old | apply Blk.set_same | apply Blk.set_other)) | (show (_ : Nat) ≠ _; first | omega | (simp; done) | (simp; omega)) | ((simp only [List.setIfInBounds_toArray, List.set_cons_succ, List.set_cons_zero]); (with_reducible exact rfl)) | (with_reducible exact rfl) | (show (_ : Array Value) = _; exact rfl)))) hb10 (by first | (simp; done) | omega | (simp; omega))
          have M10 : Blk w10 (w7.heap.size) #[.int .u64 q.f.X, .int .u64 (hi (q.f.Y)), .int .u64 (lo (q.f.Y)), .int .u64 q.f.M, .int .u64 q.t.X, .int .u64 (hi (q.t.Y)), .int .u64 (lo (q.t.Y)), .int .u64 q.t.M, .bool q.b] 40 := Blk.below (by (repeat' (first | (with_reducible (first | assumption | exact Blk.alloc_new _ _ _ (by first | rfl | (simp; done) | omega) | apply Blk.drewN | apply Blk.drew | apply Blk.alloc_old | apply Blk.set_same | apply Blk.set_other)) | (show (_ : Nat) ≠ _; first | omega | (simp; done) | (simp; omega)) | ((simp only [List.setIfInBounds_toArray, List.set_cons_succ, List.set_cons_zero]); (with_reducible exact rfl)) | (with_reducible exact rfl) | (show (_ : Array Value) = _; exact rfl)))) hb10 (by first | (simp; done) | omega | (simp; omega))
          have g10 : Below w.heap.size w w10 := by refine Below.trans ?_ (hb10.mono ?_) <;> (repeat' (first | (with_reducible (first | exact Below.refl _ _ | assumption | refine below_drewN ?_ _ | refine Below.drew ?_ | refine Below.alloc ?_ ?_ _ | refine Below.setCell ?_ ?_ _)) | go_size))
          have hz10 := hb10.size
          (try simp at hz10)
          clear hb10
          replace cC := C10.cell
          replace fC := C10.frozen
          replace zC := C10.size
          replace cB := B10.cell
          replace fB := B10.frozen
          replace zB := B10.size
          replace cZ := Z10.cell
          replace fZ := Z10.frozen
          replace zZ := Z10.size
          replace cS := S10.cell
          replace fS := S10.frozen
          replace zS := S10.size
          replace cM := M10.cell
          replace fM := M10.frozen
          replace zM := M10.size
          go_wp2_with fail
          refine wp_forget (fun v => Below w.heap.size w v ∧ Blk v (w.heap.size) #[.int .u64 m, .int .u64 d, .int .u64 n] 24 ∧ Blk v (w.heap.size + 1 + 1) #[.int .u64 xb, .int .u64 (hi (yb)), .int .u64 (lo (yb))] 28 ∧ Blk v (w5.heap.size) #[.int .u64 r.f.X, .int .u64 (hi (r.f.Y)), .int .u64 (lo (r.f.Y)), .int .u64 r.f.M, .int .u64 r.t.X, .int .u64 (hi (r.t.Y)), .int .u64 (lo (r.t.Y)), .int .u64 r.t.M, .bool r.b] 40 ∧ Blk v (w6.heap.size) #[.int .u64 s.f.X, .int .u64 (hi (s.f.Y)), .int .u64 (lo (s.f.Y)), .int .u64 s.f.M, .int .u64 s.t.X, .int .u64 (hi (s.t.Y)), .int .u64 (lo (s.t.Y)), .int .u64 s.t.M, .bool s.b] 40 ∧ Blk v (w7.heap.size) #[.int .u64 q.f.X, .int .u64 (hi (q.f.Y)), .int .u64 (lo (q.f.Y)), .int .u64 q.f.M, .int .u64 q.t.X, .int .u64 (hi (q.t.Y)), .int .u64 (lo (q.t.Y)), .int .u64 q.t.M, .bool q.b] 40 ∧ Blk v (w10.heap.size) #[.int .u64 (hi (p)), .int .u64 (lo (p))] 26) ⟨by (repeat' (first | (with_reducible (first | exact Below.refl _ _ | assumption | refine below_drewN ?_ _ | refine Below.drew ?_ | refine Below.alloc ?_ ?_ _ | refine Below.setCell ?_ ?_ _)) | go_size)), by (repeat' (first | (with_reducible (first | assumption | exact Blk.alloc_new _ _ _ (by first | rfl | (simp; done) | omega) | apply Blk.drewN | apply Blk.drew | apply Blk.alloc_old | apply Blk.set_same | apply Blk.set_other)) | (show (_ : Nat) ≠ _; first | omega | (simp; done) | (simp; omega)) | ((simp only [List.setIfInBounds_toArray, List.set_cons_succ, List.set_cons_zero]); (with_reducible exact rfl)) | (with_reducible exact rfl) | (show (_ : Array Value) = _; exact rfl))), by (repeat' (first | (with_reducible (first | assumption | exact Blk.alloc_new _ _ _ (by first | rfl | (simp; done) | omega) | apply Blk.drewN | apply Blk.drew | apply Blk.alloc_old | apply Blk.set_same | apply Blk.set_other)) | (show (_ : Nat) ≠ _; first | omega | (simp; done) | (simp; omega)) | ((simp only [List.setIfInBounds_toArray, List.set_cons_succ, List.set_cons_zero]); (with_reducible exact rfl)) | (with_reducible exact rfl) | (show (_ : Array Value) = _; exact rfl))), by (repeat' (first | (with_reducible (first | assumption | exact Blk.alloc_new _ _ _ (by first | rfl | (simp; done) | omega) | apply Blk.drewN | apply Blk.drew | apply Blk.alloc_old | apply Blk.set_same | apply Blk.set_other)) | (show (_ : Nat) ≠ _; first | omega | (simp; done) | (simp; omega)) | ((simp only [List.setIfInBounds_toArray, List.set_cons_succ, List.set_cons_zero]); (with_reducible exact rfl)) | (with_reducible exact rfl) | (show (_ : Array Value) = _; exact rfl))), by (repeat' (first | (with_reducible (first | assumption | exact Blk.alloc_new _ _ _ (by first | rfl | (simp; done) | omega) | apply Blk.drewN | apply Blk.drew | apply Blk.alloc_old | apply Blk.set_same | apply Blk.set_other)) | (show (_ : Nat) ≠ _; first | omega | (simp; done) | (simp; omega)) | ((simp only [List.setIfInBounds_toArray, List.set_cons_succ, List.set_cons_zero]); (with_reducible exact rfl)) | (with_reducible exact rfl) | (show (_ : Array Value) = _; exact rfl))), by (repeat' (first | (with_reducible (first | assumption | exact Blk.alloc_new _ _ _ (by first | rfl | (simp; done) | omega) | apply Blk.drewN | apply Blk.drew | apply Blk.alloc_old | apply Blk.set_same | apply Blk.set_other)) | (show (_ : Nat) ≠ _; first | omega | (simp; done) | (simp; omega)) | ((simp only [List.setIfInBounds_toArray, List.set_cons_succ, List.set_cons_zero]); (with_reducible exact rfl)) | (with_reducible exact rfl) | (show (_ : Array Value) = _; exact rfl))), by (repeat' (first | (with_reducible (first | assumption | exact Blk.alloc_new _ _ _ (by first | rfl | (simp; done) | omega) | apply Blk.drewN | apply Blk.drew | apply Blk.alloc_old | apply Blk.set_same | apply Blk.set_other)) | (show (_ : Nat) ≠ _; first | omega | (simp; done) | (simp; omega)) | ((simp only [List.setIfInBounds_toArray, List.set_cons_succ, List.set_cons_zero]); (with_reducible exact rfl)) | (with_reducible exact rfl) | (show (_ : Array Value) = _; exact rfl)))⟩ ?_
          rintro v11 ⟨gv11, Cv11, Bv11, Zv11, Sv11, Mv11, Vv11⟩
          have qC11 := blk_calm Cv11
          have qB11 := blk_calm Bv11
          have qZ11 := blk_calm Zv11
          have qS11 := blk_calm Sv11
          have qM11 := blk_calm Mv11
          have qV11 := blk_calm Vv11
          refine wp_region_quiet_below (by kernel_rfl) (by kernel_rfl) ?_
          repeat (go_big_quiet_step ((first
              | (go_at_call 22; (with_reducible exact Calls.regrown_of (runat s x e0 _ os xr Hv.out)))
              | (go_at_call 23; (with_reducible exact Calls.regrown_of (wcmpC e0 p c1 _ e01 p1 Hc1.out))))))
          refine wpQuiet_nil ?_
          intro _ hw'
          obtain ⟨pq, hw''⟩ := hw'
          subst hw''
          have hb11 := below_regrown v11 pq.d pq.os
          generalize Sort.grow (redrawn v11 pq.d) pq.os = w11 at *
          have C11 : Blk w11 (w.heap.size) #[.int .u64 m, .int .u64 d, .int .u64 n] 24 := Blk.below Cv11 hb11 Cv11.size
          have B11 : Blk w11 (w.heap.size + 1 + 1) #[.int .u64 xb, .int .u64 (hi (yb)), .int .u64 (lo (yb))] 28 := Blk.below Bv11 hb11 Bv11.size
          have Z11 : Blk w11 (w5.heap.size) #[.int .u64 r.f.X, .int .u64 (hi (r.f.Y)), .int .u64 (lo (r.f.Y)), .int .u64 r.f.M, .int .u64 r.t.X, .int .u64 (hi (r.t.Y)), .int .u64 (lo (r.t.Y)), .int .u64 r.t.M, .bool r.b] 40 := Blk.below Zv11 hb11 Zv11.size
          have S11 : Blk w11 (w6.heap.size) #[.int .u64 s.f.X, .int .u64 (hi (s.f.Y)), .int .u64 (lo (s.f.Y)), .int .u64 s.f.M, .int .u64 s.t.X, .int .u64 (hi (s.t.Y)), .int .u64 (lo (s.t.Y)), .int .u64 s.t.M, .bool s.b] 40 := Blk.below Sv11 hb11 Sv11.size
          have M11 : Blk w11 (w7.heap.size) #[.int .u64 q.f.X, .int .u64 (hi (q.f.Y)), .int .u64 (lo (q.f.Y)), .int .u64 q.f.M, .int .u64 q.t.X, .int .u64 (hi (q.t.Y)), .int .u64 (lo (q.t.Y)), .int .u64 q.t.M, .bool q.b] 40 := Blk.below Mv11 hb11 Mv11.size
          have V11 : Blk w11 (w10.heap.size) #[.int .u64 (hi (p)), .int .u64 (lo (p))] 26 := Blk.below Vv11 hb11 Vv11.size
          have g11 : Below w.heap.size w w11 := gv11.trans (hb11.mono gv11.size)
          have hz11 : w.heap.size ≤ w11.heap.size := g11.size
          clear hb11 gv11 Cv11 qC11 Bv11 qB11 Zv11 qZ11 Sv11 qS11 Mv11 qM11 Vv11 qV11
          replace cC := C11.cell
          replace fC := C11.frozen
          replace zC := C11.size
          replace cB := B11.cell
          replace fB := B11.frozen
          replace zB := B11.size
          replace cZ := Z11.cell
          replace fZ := Z11.frozen
          replace zZ := Z11.size
          replace cS := S11.cell
          replace fS := S11.frozen
          replace zS := S11.size
          replace cM := M11.cell
          replace fM := M11.frozen
          replace zM := M11.size
          have cV := V11.cell
          have fV := V11.frozen
          have zV := V11.size
          go_wp2_with fail
          refine wp_forget (fun v => Below w.heap.size w v ∧ Blk v (w.heap.size) #[.int .u64 m, .int .u64 d, .int .u64 n] 24 ∧ Blk v (w.heap.size + 1 + 1) #[.int .u64 xb, .int .u64 (hi (yb)), .int .u64 (lo (yb))] 28 ∧ Blk v (w5.heap.size) #[.int .u64 r.f.X, .int .u64 (hi (r.f.Y)), .int .u64 (lo (r.f.Y)), .int .u64 r.f.M, .int .u64 r.t.X, .int .u64 (hi (r.t.Y)), .int .u64 (lo (r.t.Y)), .int .u64 r.t.M, .bool r.b] 40 ∧ Blk v (w6.heap.size) #[.int .u64 s.f.X, .int .u64 (hi (s.f.Y)), .int .u64 (lo (s.f.Y)), .int .u64 s.f.M, .int .u64 s.t.X, .int .u64 (hi (s.t.Y)), .int .u64 (lo (s.t.Y)), .int .u64 s.t.M, .bool s.b] 40 ∧ Blk v (w7.heap.size) #[.int .u64 q.f.X, .int .u64 (hi (q.f.Y)), .int .u64 (lo (q.f.Y)), .int .u64 q.f.M, .int .u64 q.t.X, .int .u64 (hi (q.t.Y)), .int .u64 (lo (q.t.Y)), .int .u64 q.t.M, .bool q.b] 40 ∧ Blk v (w10.heap.size) #[.int .u64 (hi (p)), .int .u64 (lo (p))] 26) ⟨by (repeat' (first | (with_reducible (first | exact Below.refl _ _ | assumption | refine below_drewN ?_ _ | refine Below.drew ?_ | refine Below.alloc ?_ ?_ _ | refine Below.setCell ?_ ?_ _)) | go_size)), by (repeat' (first | (with_reducible (first | assumption | exact Blk.alloc_new _ _ _ (by first | rfl | (simp; done) | omega) | apply Blk.drewN | apply Blk.drew | apply Blk.alloc_old | apply Blk.set_same | apply Blk.set_other)) | (show (_ : Nat) ≠ _; first | omega | (simp; done) | (simp; omega)) | ((simp only [List.setIfInBounds_toArray, List.set_cons_succ, List.set_cons_zero]); (with_reducible exact rfl)) | (with_reducible exact rfl) | (show (_ : Array Value) = _; exact rfl))), by (repeat' (first | (with_reducible (first | assumption | exact Blk.alloc_new _ _ _ (by first | rfl | (simp; done) | omega) | apply Blk.drewN | apply Blk.drew | apply Blk.alloc_old | apply Blk.set_same | apply Blk.set_other)) | (show (_ : Nat) ≠ _; first | omega | (simp; done) | (simp; omega)) | ((simp only [List.setIfInBounds_toArray, List.set_cons_succ, List.set_cons_zero]); (with_reducible exact rfl)) | (with_reducible exact rfl) | (show (_ : Array Value) = _; exact rfl))), by (repeat' (first | (with_reducible (first | assumption | exact Blk.alloc_new _ _ _ (by first | rfl | (simp; done) | omega) | apply Blk.drewN | apply Blk.drew | apply Blk.alloc_old | apply Blk.set_same | apply Blk.set_other)) | (show (_ : Nat) ≠ _; first | omega | (simp; done) | (simp; omega)) | ((simp only [List.setIfInBounds_toArray, List.set_cons_succ, List.set_cons_zero]); (with_reducible exact rfl)) | (with_reducible exact rfl) | (show (_ : Array Value) = _; exact rfl))), by (repeat' (first | (with_reducible (first | assumption | exact Blk.alloc_new _ _ _ (by first | rfl | (simp; done) | omega) | apply Blk.drewN | apply Blk.drew | apply Blk.alloc_old | apply Blk.set_same | apply Blk.set_other)) | (show (_ : Nat) ≠ _; first | omega | (simp; done) | (simp; omega)) | ((simp only [List.setIfInBounds_toArray, List.set_cons_succ, List.set_cons_zero]); (with_reducible exact rfl)) | (with_reducible exact rfl) | (show (_ : Array Value) = _; exact rfl))), by (repeat' (first | (with_reducible (first | assumption | exact Blk.alloc_new _ _ _ (by first | rfl | (simp; done) | omega) | apply Blk.drewN | apply Blk.drew | apply Blk.alloc_old | apply Blk.set_same | apply Blk.set_other)) | (show (_ : Nat) ≠ _; first | omega | (simp; done) | (simp; omega)) | ((simp only [List.setIfInBounds_toArray, List.set_cons_succ, List.set_cons_zero]); (with_reducible exact rfl)) | (with_reducible exact rfl) | (show (_ : Array Value) = _; exact rfl))), by (repeat' (first | (with_reducible (first | assumption | exact Blk.alloc_new _ _ _ (by first | rfl | (simp; done) | omega) | apply Blk.drewN | apply Blk.drew | apply Blk.alloc_old | apply Blk.set_same | apply Blk.set_other)) | (show (_ : Nat) ≠ _; first | omega | (simp; done) | (simp; omega)) | ((simp only [List.setIfInBounds_toArray, List.set_cons_succ, List.set_cons_zero]); (with_reducible exact rfl)) | (with_reducible exact rfl) | (show (_ : Array Value) = _; exact rfl)))⟩ ?_
          rintro v13 ⟨gv13, Cv13, Bv13, Zv13, Sv13, Mv13, Vv13⟩
          have qC13 := blk_calm Cv13
          have qB13 := blk_calm Bv13
          have qZ13 := blk_calm Zv13
          have qS13 := blk_calm Sv13
          have qM13 := blk_calm Mv13
          have qV13 := blk_calm Vv13
          refine wp_region_quiet_below (by kernel_rfl) (by kernel_rfl) ?_
          repeat (go_big_quiet_step ((first
              | (go_at_call 22; (with_reducible exact Calls.regrown_of (runat q x p _ oq xr hqa'.out))))))
          refine wpQuiet_nil ?_
          intro _ hw'
          obtain ⟨pq, hw''⟩ := hw'
          subst hw''
          have hb13 := below_regrown v13 pq.d pq.os
          generalize Sort.grow (redrawn v13 pq.d) pq.os = w13 at *
          have C13 : Blk w13 (w.heap.size) #[.int .u64 m, .int .u64 d, .int .u64 n] 24 := Blk.below Cv13 hb13 Cv13.size
          have B13 : Blk w13 (w.heap.size + 1 + 1) #[.int .u64 xb, .int .u64 (hi (yb)), .int .u64 (lo (yb))] 28 := Blk.below Bv13 hb13 Bv13.size
          have Z13 : Blk w13 (w5.heap.size) #[.int .u64 r.f.X, .int .u64 (hi (r.f.Y)), .int .u64 (lo (r.f.Y)), .int .u64 r.f.M, .int .u64 r.t.X, .int .u64 (hi (r.t.Y)), .int .u64 (lo (r.t.Y)), .int .u64 r.t.M, .bool r.b] 40 := Blk.below Zv13 hb13 Zv13.size
          have S13 : Blk w13 (w6.heap.size) #[.int .u64 s.f.X, .int .u64 (hi (s.f.Y)), .int .u64 (lo (s.f.Y)), .int .u64 s.f.M, .int .u64 s.t.X, .int .u64 (hi (s.t.Y)), .int .u64 (lo (s.t.Y)), .int .u64 s.t.M, .bool s.b] 40 := Blk.below Sv13 hb13 Sv13.size
          have M13 : Blk w13 (w7.heap.size) #[.int .u64 q.f.X, .int .u64 (hi (q.f.Y)), .int .u64 (lo (q.f.Y)), .int .u64 q.f.M, .int .u64 q.t.X, .int .u64 (hi (q.t.Y)), .int .u64 (lo (q.t.Y)), .int .u64 q.t.M, .bool q.b] 40 := Blk.below Mv13 hb13 Mv13.size
          have V13 : Blk w13 (w10.heap.size) #[.int .u64 (hi (p)), .int .u64 (lo (p))] 26 := Blk.below Vv13 hb13 Vv13.size
          have g13 : Below w.heap.size w w13 := gv13.trans (hb13.mono gv13.size)
          have hz13 : w.heap.size ≤ w13.heap.size := g13.size
          clear hb13 gv13 Cv13 qC13 Bv13 qB13 Zv13 qZ13 Sv13 qS13 Mv13 qM13 Vv13 qV13
          replace cC := C13.cell
          replace fC := C13.frozen
          replace zC := C13.size
          replace cB := B13.cell
          replace fB := B13.frozen
          replace zB := B13.size
          replace cZ := Z13.cell
          replace fZ := Z13.frozen
          replace zZ := Z13.size
          replace cS := S13.cell
          replace fS := S13.frozen
          replace zS := S13.size
          replace cM := M13.cell
          replace fM := M13.frozen
          replace zM := M13.size
          replace cV := V13.cell
          replace fV := V13.frozen
          replace zV := V13.size
          go_upto_region 15 with (fail)
          go_cut [13, 14] (fun p13 p14 wx => ∃ X, p13 = .pointer (some ⟨X, 0, none⟩) ∧ p14 = .bool false ∧ Below w.heap.size w wx ∧ Blk wx (w.heap.size) #[.int .u64 m, .int .u64 d, .int .u64 n] 24 ∧ Blk wx (w.heap.size + 1 + 1) #[.int .u64 xb, .int .u64 (hi (yb)), .int .u64 (lo (yb))] 28 ∧ Blk wx (w5.heap.size) #[.int .u64 r.f.X, .int .u64 (hi (r.f.Y)), .int .u64 (lo (r.f.Y)), .int .u64 r.f.M, .int .u64 r.t.X, .int .u64 (hi (r.t.Y)), .int .u64 (lo (r.t.Y)), .int .u64 r.t.M, .bool r.b] 40 ∧ Blk wx (w6.heap.size) #[.int .u64 s.f.X, .int .u64 (hi (s.f.Y)), .int .u64 (lo (s.f.Y)), .int .u64 s.f.M, .int .u64 s.t.X, .int .u64 (hi (s.t.Y)), .int .u64 (lo (s.t.Y)), .int .u64 s.t.M, .bool s.b] 40 ∧ Blk wx (w7.heap.size) #[.int .u64 q.f.X, .int .u64 (hi (q.f.Y)), .int .u64 (lo (q.f.Y)), .int .u64 q.f.M, .int .u64 q.t.X, .int .u64 (hi (q.t.Y)), .int .u64 (lo (q.t.Y)), .int .u64 q.t.M, .bool q.b] 40 ∧ Blk wx X #[.int .u64 (hi (W)), .int .u64 (lo (W))] 26)
          case first =>
            go_region_held3 (fun v => (∀ i, v.cell? ⟨w.heap.size, i, none⟩ = #[.int .u64 m, .int .u64 d, .int .u64 n][i]?) ∧ w.heap.size < v.heap.size ∧ Blk v (w.heap.size) #[.int .u64 m, .int .u64 d, .int .u64 n] 24 ∧ (∀ i, v.cell? ⟨w.heap.size + 1 + 1, i, none⟩ = #[.int .u64 xb, .int .u64 (hi (yb)), .int .u64 (lo (yb))][i]?) ∧ w.heap.size + 1 + 1 < v.heap.size ∧ Blk v (w.heap.size + 1 + 1) #[.int .u64 xb, .int .u64 (hi (yb)), .int .u64 (lo (yb))] 28 ∧ (∀ i, v.cell? ⟨w5.heap.size, i, none⟩ = #[.int .u64 r.f.X, .int .u64 (hi (r.f.Y)), .int .u64 (lo (r.f.Y)), .int .u64 r.f.M, .int .u64 r.t.X, .int .u64 (hi (r.t.Y)), .int .u64 (lo (r.t.Y)), .int .u64 r.t.M, .bool r.b][i]?) ∧ w5.heap.size < v.heap.size ∧ Blk v (w5.heap.size) #[.int .u64 r.f.X, .int .u64 (hi (r.f.Y)), .int .u64 (lo (r.f.Y)), .int .u64 r.f.M, .int .u64 r.t.X, .int .u64 (hi (r.t.Y)), .int .u64 (lo (r.t.Y)), .int .u64 r.t.M, .bool r.b] 40 ∧ (∀ i, v.cell? ⟨w6.heap.size, i, none⟩ = #[.int .u64 s.f.X, .int .u64 (hi (s.f.Y)), .int .u64 (lo (s.f.Y)), .int .u64 s.f.M, .int .u64 s.t.X, .int .u64 (hi (s.t.Y)), .int .u64 (lo (s.t.Y)), .int .u64 s.t.M, .bool s.b][i]?) ∧ w6.heap.size < v.heap.size ∧ Blk v (w6.heap.size) #[.int .u64 s.f.X, .int .u64 (hi (s.f.Y)), .int .u64 (lo (s.f.Y)), .int .u64 s.f.M, .int .u64 s.t.X, .int .u64 (hi (s.t.Y)), .int .u64 (lo (s.t.Y)), .int .u64 s.t.M, .bool s.b] 40 ∧ (∀ i, v.cell? ⟨w7.heap.size, i, none⟩ = #[.int .u64 q.f.X, .int .u64 (hi (q.f.Y)), .int .u64 (lo (q.f.Y)), .int .u64 q.f.M, .int .u64 q.t.X, .int .u64 (hi (q.t.Y)), .int .u64 (lo (q.t.Y)), .int .u64 q.t.M, .bool q.b][i]?) ∧ w7.heap.size < v.heap.size ∧ Blk v (w7.heap.size) #[.int .u64 q.f.X, .int .u64 (hi (q.f.Y)), .int .u64 (lo (q.f.Y)), .int .u64 q.f.M, .int .u64 q.t.X, .int .u64 (hi (q.t.Y)), .int .u64 (lo (q.t.Y)), .int .u64 q.t.M, .bool q.b] 40 ∧ Below w.heap.size w v)
              (first
                | (refine ⟨?_, ?_, ?_, ?_, ?_, ?_, ?_, ?_, ?_, ?_, ?_, ?_, ?_, ?_, ?_, ?_⟩ <;> first | (with_reducible assumption) | ((repeat' (first | (with_reducible (first | assumption | exact Blk.alloc_new _ _ _ (by first | rfl | (simp; done) | omega) | apply Blk.drewN | apply Blk.drew | apply Blk.alloc_old | apply Blk.set_same | apply Blk.set_other)) | (show (_ : Nat) ≠ _; first | omega | (simp; done) | (simp; omega)) | ((simp only [List.setIfInBounds_toArray, List.set_cons_succ, List.set_cons_zero]); (with_reducible exact rfl)) | (with_reducible exact rfl) | (show (_ : Array Value) = _; exact rfl))); done) | ((repeat' (first | (with_reducible (first | exact Below.refl _ _ | assumption | refine below_drewN ?_ _ | refine Below.drew ?_ | refine Below.alloc ?_ ?_ _ | refine Below.setCell ?_ ?_ _)) | go_size)); done) | omega | (go_simp; done) | (simp; done) | (exact Blk.cell (by (repeat' (first | (with_reducible (first | assumption | exact Blk.alloc_new _ _ _ (by first | rfl | (simp; done) | omega) | apply Blk.drewN | apply Blk.drew | apply Blk.alloc_old | apply Blk.set_same | apply Blk.set_other)) | (show (_ : Nat) ≠ _; first | omega | (simp; done) | (simp; omega)) | ((simp only [List.setIfInBounds_toArray, List.set_cons_succ, List.set_cons_zero]); (with_reducible exact rfl)) | (with_reducible exact rfl) | (show (_ : Array Value) = _; exact rfl)))))))
              (first
                | (go_at_call 24; (with_reducible refine (wOfW _ (1 + k4) _ (by first | rfl | (simp only [hw0, hk4, hw8, hw5, hw6]; done) | (simp [hw0, hk4, hw8, hw5, hw6]; done) | (trace_state; fail)) (by omega) (by omega)).mono ?_); rintro e w' ⟨rfl, hb'⟩; have hbx : Below w.heap.size w w' := (by refine Below.trans ?_ (Below.mono hb' ?_) <;> (repeat' (first | (with_reducible (first | exact Below.refl _ _ | assumption | refine below_drewN ?_ _ | refine Below.drew ?_ | refine Below.alloc ?_ ?_ _ | refine Below.setCell ?_ ?_ _)) | go_size))); have hbs := hb'.size; (try simp at hbs); (try (first | have hX := Blk.below (Blk.alloc_new _ _ _ rfl) hb' (by first | (simp; done) | omega | (simp; omega)) | have hX := Blk.below (Blk.drew (Blk.alloc_new _ _ _ rfl)) hb' (by first | (simp; done) | omega | (simp; omega)) | have hX := Blk.below hX hb' (by first | (simp; done) | omega | (simp; omega)) | have hX := Blk.below hX.drew hb' (by first | (simp; done) | omega | (simp; omega)))); (try simp only [World.size_alloc] at hX); (try (have cX := hX.cell; have fX := hX.frozen; have zX := hX.size)); have hkC : Blk w' (w.heap.size) #[.int .u64 m, .int .u64 d, .int .u64 n] 24 := Blk.below (by (repeat' (first | (with_reducible (first | assumption | exact Blk.alloc_new _ _ _ (by first | rfl | (simp; done) | omega) | apply Blk.drewN | apply Blk.drew | apply Blk.alloc_old | apply Blk.set_same | apply Blk.set_other)) | (show (_ : Nat) ≠ _; first | omega | (simp; done) | (simp; omega)) | ((simp only [List.setIfInBounds_toArray, List.set_cons_succ, List.set_cons_zero]); (with_reducible exact rfl)) | (with_reducible exact rfl) | (show (_ : Array Value) = _; exact rfl)))) hb' (by first | (simp; done) | omega | (simp; omega)); have hqC := hkC.cell; have hzC := hkC.size; have hkB : Blk w' (w.heap.size + 1 + 1) #[.int .u64 xb, .int .u64 (hi (yb)), .int .u64 (lo (yb))] 28 := Blk.below (by (repeat' (first | (with_reducible (first | assumption | exact Blk.alloc_new _ _ _ (by first | rfl | (simp; done) | omega) | apply Blk.drewN | apply Blk.drew | apply Blk.alloc_old | apply Blk.set_same | apply Blk.set_other)) | (show (_ : Nat) ≠ _; first | omega | (simp; done) | (simp; omega)) | ((simp only [List.setIfInBounds_toArray, List.set_cons_succ, List.set_cons_zero]); (with_reducible exact rfl)) | (with_reducible exact rfl) | (show (_ : Array Value) = _; exact rfl)))) hb' (by first | (simp; done) | omega | (simp; omega)); have hqB := hkB.cell; have hzB := hkB.size; have hkZ : Blk w' (w5.heap.size) #[.int .u64 r.f.X, .int .u64 (hi (r.f.Y)), .int .u64 (lo (r.f.Y)), .int .u64 r.f.M, .int .u64 r.t.X, .int .u64 (hi (r.t.Y)), .int .u64 (lo (r.t.Y)), .int .u64 r.t.M, .bool r.b] 40 := Blk.below (by (repeat' (first | (with_reducible (first | assumption | exact Blk.alloc_new _ _ _ (by first | rfl | (simp; done) | omega) | apply Blk.drewN | apply Blk.drew | apply Blk.alloc_old | apply Blk.set_same | apply Blk.set_other)) | (show (_ : Nat) ≠ _; first | omega | (simp; done) | (simp; omega)) | ((simp only [List.setIfInBounds_toArray, List.set_cons_succ, List.set_cons_zero]); (with_reducible exact rfl)) | (with_reducible exact rfl) | (show (_ : Array Value) = _; exact rfl)))) hb' (by first | (simp; done) | omega | (simp; omega)); have hqZ := hkZ.cell; have hzZ := hkZ.size; have hkS : Blk w' (w6.heap.size) #[.int .u64 s.f.X, .int .u64 (hi (s.f.Y)), .int .u64 (lo (s.f.Y)), .int .u64 s.f.M, .int .u64 s.t.X, .int .u64 (hi (s.t.Y)), .int .u64 (lo (s.t.Y)), .int .u64 s.t.M, .bool s.b] 40 := Blk.below (by (repeat' (first | (with_reducible (first | assumption | exact Blk.alloc_new _ _ _ (by first | rfl | (simp; done) | omega) | apply Blk.drewN | apply Blk.drew | apply Blk.alloc_old | apply Blk.set_same | apply Blk.set_other)) | (show (_ : Nat) ≠ _; first | omega | (simp; done) | (simp; omega)) | ((simp only [List.setIfInBounds_toArray, List.set_cons_succ, List.set_cons_zero]); (with_reducible exact rfl)) | (with_reducible exact rfl) | (show (_ : Array Value) = _; exact rfl)))) hb' (by first | (simp; done) | omega | (simp; omega)); have hqS := hkS.cell; have hzS := hkS.size; have hkM : Blk w' (w7.heap.size) #[.int .u64 q.f.X, .int .u64 (hi (q.f.Y)), .int .u64 (lo (q.f.Y)), .int .u64 q.f.M, .int .u64 q.t.X, .int .u64 (hi (q.t.Y)), .int .u64 (lo (q.t.Y)), .int .u64 q.t.M, .bool q.b] 40 := Blk.below (by (repeat' (first | (with_reducible (first | assumption | exact Blk.alloc_new _ _ _ (by first | rfl | (simp; done) | omega) | apply Blk.drewN | apply Blk.drew | apply Blk.alloc_old | apply Blk.set_same | apply Blk.set_other)) | (show (_ : Nat) ≠ _; first | omega | (simp; done) | (simp; omega)) | ((simp only [List.setIfInBounds_toArray, List.set_cons_succ, List.set_cons_zero]); (with_reducible exact rfl)) | (with_reducible exact rfl) | (show (_ : Array Value) = _; exact rfl)))) hb' (by first | (simp; done) | omega | (simp; omega)); have hqM := hkM.cell; have hzM := hkM.size; clear hb')
                | (go_at_call 20; (with_reducible refine (wAddD yb (1 + k4) W _ hyb (by unfold In128; omega) HW.out W1).mono ?_); rintro e w' ⟨rfl, hb'⟩; have hbx : Below w.heap.size w w' := (by refine Below.trans ?_ (Below.mono hb' ?_) <;> (repeat' (first | (with_reducible (first | exact Below.refl _ _ | assumption | refine below_drewN ?_ _ | refine Below.drew ?_ | refine Below.alloc ?_ ?_ _ | refine Below.setCell ?_ ?_ _)) | go_size))); have hbs := hb'.size; (try simp at hbs); (try (first | have hX := Blk.below (Blk.alloc_new _ _ _ rfl) hb' (by first | (simp; done) | omega | (simp; omega)) | have hX := Blk.below (Blk.drew (Blk.alloc_new _ _ _ rfl)) hb' (by first | (simp; done) | omega | (simp; omega)) | have hX := Blk.below hX hb' (by first | (simp; done) | omega | (simp; omega)) | have hX := Blk.below hX.drew hb' (by first | (simp; done) | omega | (simp; omega)))); (try simp only [World.size_alloc] at hX); (try (have cX := hX.cell; have fX := hX.frozen; have zX := hX.size)); have hkC : Blk w' (w.heap.size) #[.int .u64 m, .int .u64 d, .int .u64 n] 24 := Blk.below (by (repeat' (first | (with_reducible (first | assumption | exact Blk.alloc_new _ _ _ (by first | rfl | (simp; done) | omega) | apply Blk.drewN | apply Blk.drew | apply Blk.alloc_old | apply Blk.set_same | apply Blk.set_other)) | (show (_ : Nat) ≠ _; first | omega | (simp; done) | (simp; omega)) | ((simp only [List.setIfInBounds_toArray, List.set_cons_succ, List.set_cons_zero]); (with_reducible exact rfl)) | (with_reducible exact rfl) | (show (_ : Array Value) = _; exact rfl)))) hb' (by first | (simp; done) | omega | (simp; omega)); have hqC := hkC.cell; have hzC := hkC.size; have hkB : Blk w' (w.heap.size + 1 + 1) #[.int .u64 xb, .int .u64 (hi (yb)), .int .u64 (lo (yb))] 28 := Blk.below (by (repeat' (first | (with_reducible (first | assumption | exact Blk.alloc_new _ _ _ (by first | rfl | (simp; done) | omega) | apply Blk.drewN | apply Blk.drew | apply Blk.alloc_old | apply Blk.set_same | apply Blk.set_other)) | (show (_ : Nat) ≠ _; first | omega | (simp; done) | (simp; omega)) | ((simp only [List.setIfInBounds_toArray, List.set_cons_succ, List.set_cons_zero]); (with_reducible exact rfl)) | (with_reducible exact rfl) | (show (_ : Array Value) = _; exact rfl)))) hb' (by first | (simp; done) | omega | (simp; omega)); have hqB := hkB.cell; have hzB := hkB.size; have hkZ : Blk w' (w5.heap.size) #[.int .u64 r.f.X, .int .u64 (hi (r.f.Y)), .int .u64 (lo (r.f.Y)), .int .u64 r.f.M, .int .u64 r.t.X, .int .u64 (hi (r.t.Y)), .int .u64 (lo (r.t.Y)), .int .u64 r.t.M, .bool r.b] 40 := Blk.below (by (repeat' (first | (with_reducible (first | assumption | exact Blk.alloc_new _ _ _ (by first | rfl | (simp; done) | omega) | apply Blk.drewN | apply Blk.drew | apply Blk.alloc_old | apply Blk.set_same | apply Blk.set_other)) | (show (_ : Nat) ≠ _; first | omega | (simp; done) | (simp; omega)) | ((simp only [List.setIfInBounds_toArray, List.set_cons_succ, List.set_cons_zero]); (with_reducible exact rfl)) | (with_reducible exact rfl) | (show (_ : Array Value) = _; exact rfl)))) hb' (by first | (simp; done) | omega | (simp; omega)); have hqZ := hkZ.cell; have hzZ := hkZ.size; have hkS : Blk w' (w6.heap.size) #[.int .u64 s.f.X, .int .u64 (hi (s.f.Y)), .int .u64 (lo (s.f.Y)), .int .u64 s.f.M, .int .u64 s.t.X, .int .u64 (hi (s.t.Y)), .int .u64 (lo (s.t.Y)), .int .u64 s.t.M, .bool s.b] 40 := Blk.below (by (repeat' (first | (with_reducible (first | assumption | exact Blk.alloc_new _ _ _ (by first | rfl | (simp; done) | omega) | apply Blk.drewN | apply Blk.drew | apply Blk.alloc_old | apply Blk.set_same | apply Blk.set_other)) | (show (_ : Nat) ≠ _; first | omega | (simp; done) | (simp; omega)) | ((simp only [List.setIfInBounds_toArray, List.set_cons_succ, List.set_cons_zero]); (with_reducible exact rfl)) | (with_reducible exact rfl) | (show (_ : Array Value) = _; exact rfl)))) hb' (by first | (simp; done) | omega | (simp; omega)); have hqS := hkS.cell; have hzS := hkS.size; have hkM : Blk w' (w7.heap.size) #[.int .u64 q.f.X, .int .u64 (hi (q.f.Y)), .int .u64 (lo (q.f.Y)), .int .u64 q.f.M, .int .u64 q.t.X, .int .u64 (hi (q.t.Y)), .int .u64 (lo (q.t.Y)), .int .u64 q.t.M, .bool q.b] 40 := Blk.below (by (repeat' (first | (with_reducible (first | assumption | exact Blk.alloc_new _ _ _ (by first | rfl | (simp; done) | omega) | apply Blk.drewN | apply Blk.drew | apply Blk.alloc_old | apply Blk.set_same | apply Blk.set_other)) | (show (_ : Nat) ≠ _; first | omega | (simp; done) | (simp; omega)) | ((simp only [List.setIfInBounds_toArray, List.set_cons_succ, List.set_cons_zero]); (with_reducible exact rfl)) | (with_reducible exact rfl) | (show (_ : Array Value) = _; exact rfl)))) hb' (by first | (simp; done) | omega | (simp; omega)); have hqM := hkM.cell; have hzM := hkM.size; clear hb'))
            all_goals
              go_wp2_with fail
              go_meet
              exact ⟨_, rfl, rfl, by (repeat' (first | (with_reducible (first | exact Below.refl _ _ | assumption | refine below_drewN ?_ _ | refine Below.drew ?_ | refine Below.alloc ?_ ?_ _ | refine Below.setCell ?_ ?_ _)) | go_size)), by (repeat' (first | (with_reducible (first | assumption | exact Blk.alloc_new _ _ _ (by first | rfl | (simp; done) | omega) | apply Blk.drewN | apply Blk.drew | apply Blk.alloc_old | apply Blk.set_same | apply Blk.set_other)) | (show (_ : Nat) ≠ _; first | omega | (simp; done) | (simp; omega)) | ((simp only [List.setIfInBounds_toArray, List.set_cons_succ, List.set_cons_zero]); (with_reducible exact rfl)) | (with_reducible exact rfl) | (show (_ : Array Value) = _; exact rfl))), by (repeat' (first | (with_reducible (first | assumption | exact Blk.alloc_new _ _ _ (by first | rfl | (simp; done) | omega) | apply Blk.drewN | apply Blk.drew | apply Blk.alloc_old | apply Blk.set_same | apply Blk.set_other)) | (show (_ : Nat) ≠ _; first | omega | (simp; done) | (simp; omega)) | ((simp only [List.setIfInBounds_toArray, List.set_cons_succ, List.set_cons_zero]); (with_reducible exact rfl)) | (with_reducible exact rfl) | (show (_ : Array Value) = _; exact rfl))), by (repeat' (first | (with_reducible (first | assumption | exact Blk.alloc_new _ _ _ (by first | rfl | (simp; done) | omega) | apply Blk.drewN | apply Blk.drew | apply Blk.alloc_old | apply Blk.set_same | apply Blk.set_other)) | (show (_ : Nat) ≠ _; first | omega | (simp; done) | (simp; omega)) | ((simp only [List.setIfInBounds_toArray, List.set_cons_succ, List.set_cons_zero]); (with_reducible exact rfl)) | (with_reducible exact rfl) | (show (_ : Array Value) = _; exact rfl))), by (repeat' (first | (with_reducible (first | assumption | exact Blk.alloc_new _ _ _ (by first | rfl | (simp; done) | omega) | apply Blk.drewN | apply Blk.drew | apply Blk.alloc_old | apply Blk.set_same | apply Blk.set_other)) | (show (_ : Nat) ≠ _; first | omega | (simp; done) | (simp; omega)) | ((simp only [List.setIfInBounds_toArray, List.set_cons_succ, List.set_cons_zero]); (with_reducible exact rfl)) | (with_reducible exact rfl) | (show (_ : Array Value) = _; exact rfl))), by (repeat' (first | (with_reducible (first | assumption | exact Blk.alloc_new _ _ _ (by first | rfl | (simp; done) | omega) | apply Blk.drewN | apply Blk.drew | apply Blk.alloc_old | apply Blk.set_same | apply Blk.set_other)) | (show (_ : Nat) ≠ _; first | omega | (simp; done) | (simp; omega)) | ((simp only [List.setIfInBounds_toArray, List.set_cons_succ, List.set_cons_zero]); (with_reducible exact rfl)) | (with_reducible exact rfl) | (show (_ : Array Value) = _; exact rfl))), by (repeat' (first | (with_reducible (first | assumption | exact Blk.alloc_new _ _ _ (by first | rfl | (simp; done) | omega) | apply Blk.drewN | apply Blk.drew | apply Blk.alloc_old | apply Blk.set_same | apply Blk.set_other)) | (show (_ : Nat) ≠ _; first | omega | (simp; done) | (simp; omega)) | ((simp only [List.setIfInBounds_toArray, List.set_cons_succ, List.set_cons_zero]); (with_reducible exact rfl)) | (with_reducible exact rfl) | (show (_ : Array Value) = _; exact rfl)))⟩
          case rest =>
            obtain ⟨PY, rfl, rfl, g14, C14, B14, Z14, S14, M14, Y14⟩ := hcut
            have hz14 := g14.size
            have cC := C14.cell; have fC := C14.frozen; have zC := C14.size
            have cB := B14.cell; have fB := B14.frozen; have zB := B14.size
            have cZ := Z14.cell; have fZ := Z14.frozen; have zZ := Z14.size
            have cS := S14.cell; have fS := S14.frozen; have zS := S14.size
            have cM := M14.cell; have fM := M14.frozen; have zM := M14.size
            have cY := Y14.cell; have fY := Y14.frozen; have zY := Y14.size
            go_wp2_with fail
            refine wp_forget (fun v => Below w.heap.size w v ∧ Blk v (w.heap.size) #[.int .u64 m, .int .u64 d, .int .u64 n] 24 ∧ Blk v (w.heap.size + 1 + 1) #[.int .u64 xb, .int .u64 (hi (yb)), .int .u64 (lo (yb))] 28 ∧ Blk v (w5.heap.size) #[.int .u64 r.f.X, .int .u64 (hi (r.f.Y)), .int .u64 (lo (r.f.Y)), .int .u64 r.f.M, .int .u64 r.t.X, .int .u64 (hi (r.t.Y)), .int .u64 (lo (r.t.Y)), .int .u64 r.t.M, .bool r.b] 40 ∧ Blk v (w6.heap.size) #[.int .u64 s.f.X, .int .u64 (hi (s.f.Y)), .int .u64 (lo (s.f.Y)), .int .u64 s.f.M, .int .u64 s.t.X, .int .u64 (hi (s.t.Y)), .int .u64 (lo (s.t.Y)), .int .u64 s.t.M, .bool s.b] 40 ∧ Blk v (w7.heap.size) #[.int .u64 q.f.X, .int .u64 (hi (q.f.Y)), .int .u64 (lo (q.f.Y)), .int .u64 q.f.M, .int .u64 q.t.X, .int .u64 (hi (q.t.Y)), .int .u64 (lo (q.t.Y)), .int .u64 q.t.M, .bool q.b] 40 ∧ Blk v (PY) #[.int .u64 (hi (W)), .int .u64 (lo (W))] 26) ⟨by (repeat' (first | (with_reducible (first | exact Below.refl _ _ | assumption | refine below_drewN ?_ _ | refine Below.drew ?_ | refine Below.alloc ?_ ?_ _ | refine Below.setCell ?_ ?_ _)) | go_size)), by (repeat' (first | (with_reducible (first | assumption | exact Blk.alloc_new _ _ _ (by first | rfl | (simp; done) | omega) | apply Blk.drewN | apply Blk.drew | apply Blk.alloc_old | apply Blk.set_same | apply Blk.set_other)) | (show (_ : Nat) ≠ _; first | omega | (simp; done) | (simp; omega)) | ((simp only [List.setIfInBounds_toArray, List.set_cons_succ, List.set_cons_zero]); (with_reducible exact rfl)) | (with_reducible exact rfl) | (show (_ : Array Value) = _; exact rfl))), by (repeat' (first | (with_reducible (first | assumption | exact Blk.alloc_new _ _ _ (by first | rfl | (simp; done) | omega) | apply Blk.drewN | apply Blk.drew | apply Blk.alloc_old | apply Blk.set_same | apply Blk.set_other)) | (show (_ : Nat) ≠ _; first | omega | (simp; done) | (simp; omega)) | ((simp only [List.setIfInBounds_toArray, List.set_cons_succ, List.set_cons_zero]); (with_reducible exact rfl)) | (with_reducible exact rfl) | (show (_ : Array Value) = _; exact rfl))), by (repeat' (first | (with_reducible (first | assumption | exact Blk.alloc_new _ _ _ (by first | rfl | (simp; done) | omega) | apply Blk.drewN | apply Blk.drew | apply Blk.alloc_old | apply Blk.set_same | apply Blk.set_other)) | (show (_ : Nat) ≠ _; first | omega | (simp; done) | (simp; omega)) | ((simp only [List.setIfInBounds_toArray, List.set_cons_succ, List.set_cons_zero]); (with_reducible exact rfl)) | (with_reducible exact rfl) | (show (_ : Array Value) = _; exact rfl))), by (repeat' (first | (with_reducible (first | assumption | exact Blk.alloc_new _ _ _ (by first | rfl | (simp; done) | omega) | apply Blk.drewN | apply Blk.drew | apply Blk.alloc_old | apply Blk.set_same | apply Blk.set_other)) | (show (_ : Nat) ≠ _; first | omega | (simp; done) | (simp; omega)) | ((simp only [List.setIfInBounds_toArray, List.set_cons_succ, List.set_cons_zero]); (with_reducible exact rfl)) | (with_reducible exact rfl) | (show (_ : Array Value) = _; exact rfl))), by (repeat' (first | (with_reducible (first | assumption | exact Blk.alloc_new _ _ _ (by first | rfl | (simp; done) | omega) | apply Blk.drewN | apply Blk.drew | apply Blk.alloc_old | apply Blk.set_same | apply Blk.set_other)) | (show (_ : Nat) ≠ _; first | omega | (simp; done) | (simp; omega)) | ((simp only [List.setIfInBounds_toArray, List.set_cons_succ, List.set_cons_zero]); (with_reducible exact rfl)) | (with_reducible exact rfl) | (show (_ : Array Value) = _; exact rfl))), by (repeat' (first | (with_reducible (first | assumption | exact Blk.alloc_new _ _ _ (by first | rfl | (simp; done) | omega) | apply Blk.drewN | apply Blk.drew | apply Blk.alloc_old | apply Blk.set_same | apply Blk.set_other)) | (show (_ : Nat) ≠ _; first | omega | (simp; done) | (simp; omega)) | ((simp only [List.setIfInBounds_toArray, List.set_cons_succ, List.set_cons_zero]); (with_reducible exact rfl)) | (with_reducible exact rfl) | (show (_ : Array Value) = _; exact rfl)))⟩ ?_
            rintro v15 ⟨gv15, Cv15, Bv15, Zv15, Sv15, Mv15, Yv15⟩
            have qC15 := blk_calm Cv15
            have qB15 := blk_calm Bv15
            have qZ15 := blk_calm Zv15
            have qS15 := blk_calm Sv15
            have qM15 := blk_calm Mv15
            have qY15 := blk_calm Yv15
            refine wp_region_quiet_below (by kernel_rfl) (by kernel_rfl) ?_
            repeat (go_big_quiet_step ((first
                | (go_at_call 25; (with_reducible exact Calls.regrown_of (runreach q W tb _ oq W1 hqr'.out)))
                | (go_at_call 25; (with_reducible exact Calls.regrown_of (runreach r W ta _ or W1 Hta.out)))
                | (go_at_call 25; (with_reducible exact Calls.regrown_of (runreach s W tb _ os W1 Htb.out))))))
            refine wpQuiet_nil ?_
            intro _ hw'
            obtain ⟨pq, hw''⟩ := hw'
            subst hw''
            have hb15 := below_regrown v15 pq.d pq.os
            generalize Sort.grow (redrawn v15 pq.d) pq.os = w15 at *
            have C15 : Blk w15 (w.heap.size) #[.int .u64 m, .int .u64 d, .int .u64 n] 24 := Blk.below Cv15 hb15 Cv15.size
            have B15 : Blk w15 (w.heap.size + 1 + 1) #[.int .u64 xb, .int .u64 (hi (yb)), .int .u64 (lo (yb))] 28 := Blk.below Bv15 hb15 Bv15.size
            have Z15 : Blk w15 (w5.heap.size) #[.int .u64 r.f.X, .int .u64 (hi (r.f.Y)), .int .u64 (lo (r.f.Y)), .int .u64 r.f.M, .int .u64 r.t.X, .int .u64 (hi (r.t.Y)), .int .u64 (lo (r.t.Y)), .int .u64 r.t.M, .bool r.b] 40 := Blk.below Zv15 hb15 Zv15.size
            have S15 : Blk w15 (w6.heap.size) #[.int .u64 s.f.X, .int .u64 (hi (s.f.Y)), .int .u64 (lo (s.f.Y)), .int .u64 s.f.M, .int .u64 s.t.X, .int .u64 (hi (s.t.Y)), .int .u64 (lo (s.t.Y)), .int .u64 s.t.M, .bool s.b] 40 := Blk.below Sv15 hb15 Sv15.size
            have M15 : Blk w15 (w7.heap.size) #[.int .u64 q.f.X, .int .u64 (hi (q.f.Y)), .int .u64 (lo (q.f.Y)), .int .u64 q.f.M, .int .u64 q.t.X, .int .u64 (hi (q.t.Y)), .int .u64 (lo (q.t.Y)), .int .u64 q.t.M, .bool q.b] 40 := Blk.below Mv15 hb15 Mv15.size
            have Y15 : Blk w15 (PY) #[.int .u64 (hi (W)), .int .u64 (lo (W))] 26 := Blk.below Yv15 hb15 Yv15.size
            have g15 : Below w.heap.size w w15 := gv15.trans (hb15.mono gv15.size)
            have hz15 : w.heap.size ≤ w15.heap.size := g15.size
            clear hb15 gv15 Cv15 qC15 Bv15 qB15 Zv15 qZ15 Sv15 qS15 Mv15 qM15 Yv15 qY15
            replace cC := C15.cell
            replace fC := C15.frozen
            replace zC := C15.size
            replace cB := B15.cell
            replace fB := B15.frozen
            replace zB := B15.size
            replace cZ := Z15.cell
            replace fZ := Z15.frozen
            replace zZ := Z15.size
            replace cS := S15.cell
            replace fS := S15.frozen
            replace zS := S15.size
            replace cM := M15.cell
            replace fM := M15.frozen
            replace zM := M15.size
            replace cY := Y15.cell
            replace fY := Y15.frozen
            replace zY := Y15.size
            go_wp2
            go_roundw
            case rel => exact ⟨k + 1, by omega, by go_num, by (repeat' (first | (with_reducible (first | exact Below.refl _ _ | assumption | refine below_drewN ?_ _ | refine Below.drew ?_ | refine Below.alloc ?_ ?_ _ | refine Below.setCell ?_ ?_ _)) | go_size)), by (repeat' (first | (with_reducible (first | assumption | exact Blk.alloc_new _ _ _ (by first | rfl | (simp; done) | omega) | apply Blk.drewN | apply Blk.drew | apply Blk.alloc_old | apply Blk.set_same | apply Blk.set_other)) | (show (_ : Nat) ≠ _; first | omega | (simp; done) | (simp; omega)) | ((simp only [List.setIfInBounds_toArray, List.set_cons_succ, List.set_cons_zero]); (with_reducible exact rfl)) | (with_reducible exact rfl) | (show (_ : Array Value) = _; exact rfl))), by (repeat' (first | (with_reducible (first | assumption | exact Blk.alloc_new _ _ _ (by first | rfl | (simp; done) | omega) | apply Blk.drewN | apply Blk.drew | apply Blk.alloc_old | apply Blk.set_same | apply Blk.set_other)) | (show (_ : Nat) ≠ _; first | omega | (simp; done) | (simp; omega)) | ((simp only [List.setIfInBounds_toArray, List.set_cons_succ, List.set_cons_zero]); (with_reducible exact rfl)) | (with_reducible exact rfl) | (show (_ : Array Value) = _; exact rfl))), by (repeat' (first | (with_reducible (first | assumption | exact Blk.alloc_new _ _ _ (by first | rfl | (simp; done) | omega) | apply Blk.drewN | apply Blk.drew | apply Blk.alloc_old | apply Blk.set_same | apply Blk.set_other)) | (show (_ : Nat) ≠ _; first | omega | (simp; done) | (simp; omega)) | ((simp only [List.setIfInBounds_toArray, List.set_cons_succ, List.set_cons_zero]); (with_reducible exact rfl)) | (with_reducible exact rfl) | (show (_ : Array Value) = _; exact rfl))), by (repeat' (first | (with_reducible (first | assumption | exact Blk.alloc_new _ _ _ (by first | rfl | (simp; done) | omega) | apply Blk.drewN | apply Blk.drew | apply Blk.alloc_old | apply Blk.set_same | apply Blk.set_other)) | (show (_ : Nat) ≠ _; first | omega | (simp; done) | (simp; omega)) | ((simp only [List.setIfInBounds_toArray, List.set_cons_succ, List.set_cons_zero]); (with_reducible exact rfl)) | (with_reducible exact rfl) | (show (_ : Array Value) = _; exact rfl))), by (repeat' (first | (with_reducible (first | assumption | exact Blk.alloc_new _ _ _ (by first | rfl | (simp; done) | omega) | apply Blk.drewN | apply Blk.drew | apply Blk.alloc_old | apply Blk.set_same | apply Blk.set_other)) | (show (_ : Nat) ≠ _; first | omega | (simp; done) | (simp; omega)) | ((simp only [List.setIfInBounds_toArray, List.set_cons_succ, List.set_cons_zero]); (with_reducible exact rfl)) | (with_reducible exact rfl) | (show (_ : Array Value) = _; exact rfl)))⟩
            case measure => simp [intOf]; omega
        · have kc : decide (c1 < 0) = false := by rw [← Hc1.out]; unfold cmp; rw [if_neg hcl]; split <;> rfl
          have hqa' := hide (show q.at x = p by omega)
          have hqr' := hide (show q.reach W = ta by omega)
          clear hqa hqr hcl
          have ne1 := wneq p p false p1 p1 (by simp)
          have ne2 : (ta != ta) = false := by simp
          go_wp2_with fail
          try rw [hx]
          refine (runat r x p _ or xr Hp.out).mono ?_
          rintro e w10 ⟨rfl, hb10⟩
          have C10 : Blk w10 (w.heap.size) #[.int .u64 m, .int .u64 d, .int .u64 n] 24 := Blk.below (by (repeat' (first | (with_reducible (first | assumption | exact Blk.alloc_new _ _ _ (by first | rfl | (simp; done) | omega) | apply Blk.drewN | apply Blk.drew | apply Blk.alloc_old | apply Blk.set_same | apply Blk.set_other)) | (show (_ : Nat) ≠ _; first | omega | (simp; done) | (simp; omega)) | ((simp only [List.setIfInBounds_toArray, List.set_cons_succ, List.set_cons_zero]); (with_reducible exact rfl)) | (with_reducible exact rfl) | (show (_ : Array Value) = _; exact rfl)))) hb10 (by first | (simp; done) | omega | (simp; omega))
          have B10 : Blk w10 (w.heap.size + 1 + 1) #[.int .u64 xb, .int .u64 (hi (yb)), .int .u64 (lo (yb))] 28 := Blk.below (by (repeat' (first | (with_reducible (first | assumption | exact Blk.alloc_new _ _ _ (by first | rfl | (simp; done) | omega) | apply Blk.drewN | apply Blk.drew | apply Blk.alloc_old | apply Blk.set_same | apply Blk.set_other)) | (show (_ : Nat) ≠ _; first | omega | (simp; done) | (simp; omega)) | ((simp only [List.setIfInBounds_toArray, List.set_cons_succ, List.set_cons_zero]); (with_reducible exact rfl)) | (with_reducible exact rfl) | (show (_ : Array Value) = _; exact rfl)))) hb10 (by first | (simp; done) | omega | (simp; omega))
          have Z10 : Blk w10 (w5.heap.size) #[.int .u64 r.f.X, .int .u64 (hi (r.f.Y)), .int .u64 (lo (r.f.Y)), .int .u64 r.f.M, .int .u64 r.t.X, .int .u64 (hi (r.t.Y)), .int .u64 (lo (r.t.Y)), .int .u64 r.t.M, .bool r.b] 40 := Blk.below (by (repeat' (first | (with_reducible (first | assumption | exact Blk.alloc_new _ _ _ (by first | rfl | (simp; done) | omega) | apply Blk.drewN | apply Blk.drew | apply Blk.alloc_old | apply Blk.set_same | apply Blk.set_other)) | (show (_ : Nat) ≠ _; first | omega | (simp; done) | (simp; omega)) | ((simp only [List.setIfInBounds_toArray, List.set_cons_succ, List.set_cons_zero]); (with_reducible exact rfl)) | (with_reducible exact rfl) | (show (_ : Array Value) = _; exact rfl)))) hb10 (by first | (simp; done) | omega | (simp; omega))
          have S10 : Blk w10 (w6.heap.size) #[.int .u64 s.f.X, .int .u64 (hi (s.f.Y)), .int .u64 (lo (s.f.Y)), .int .u64 s.f.M, .int .u64 s.t.X, .int .u64 (hi (s.t.Y)), .int .u64 (lo (s.t.Y)), .int .u64 s.t.M, .bool s.b] 40 := Blk.below (by (repeat' (first | (with_reducible (first | assumption | exact Blk.alloc_new _ _ _ (by first | rfl | (simp; done) | omega) | apply Blk.drewN | apply Blk.drew | apply Blk.alloc_old | apply Blk.set_same | apply Blk.set_other)) | (show (_ : Nat) ≠ _; first | omega | (simp; done) | (simp; omega)) | ((simp only [List.setIfInBounds_toArray, List.set_cons_succ, List.set_cons_zero]); (with_reducible exact rfl)) | (with_reducible exact rfl) | (show (_ : Array Value) = _; exact rfl)))) hb10 (by first | (simp; done) | omega | (simp; omega))
          have M10 : Blk w10 (w7.heap.size) #[.int .u64 q.f.X, .int .u64 (hi (q.f.Y)), .int .u64 (lo (q.f.Y)), .int .u64 q.f.M, .int .u64 q.t.X, .int .u64 (hi (q.t.Y)), .int .u64 (lo (q.t.Y)), .int .u64 q.t.M, .bool q.b] 40 := Blk.below (by (repeat' (first | (with_reducible (first | assumption | exact Blk.alloc_new _ _ _ (by first | rfl | (simp; done) | omega) | apply Blk.drewN | apply Blk.drew | apply Blk.alloc_old | apply Blk.set_same | apply Blk.set_other)) | (show (_ : Nat) ≠ _; first | omega | (simp; done) | (simp; omega)) | ((simp only [List.setIfInBounds_toArray, List.set_cons_succ, List.set_cons_zero]); (with_reducible exact rfl)) | (with_reducible exact rfl) | (show (_ : Array Value) = _; exact rfl)))) hb10 (by first | (simp; done) | omega | (simp; omega))
          have g10 : Below w.heap.size w w10 := by refine Below.trans ?_ (hb10.mono ?_) <;> (repeat' (first | (with_reducible (first | exact Below.refl _ _ | assumption | refine below_drewN ?_ _ | refine Below.drew ?_ | refine Below.alloc ?_ ?_ _ | refine Below.setCell ?_ ?_ _)) | go_size))
          have hz10 := hb10.size
          (try simp at hz10)
          clear hb10
          replace cC := C10.cell
          replace fC := C10.frozen
          replace zC := C10.size
          replace cB := B10.cell
          replace fB := B10.frozen
          replace zB := B10.size
          replace cZ := Z10.cell
          replace fZ := Z10.frozen
          replace zZ := Z10.size
          replace cS := S10.cell
          replace fS := S10.frozen
          replace zS := S10.size
          replace cM := M10.cell
          replace fM := M10.frozen
          replace zM := M10.size
          go_wp2_with fail
          refine wp_forget (fun v => Below w.heap.size w v ∧ Blk v (w.heap.size) #[.int .u64 m, .int .u64 d, .int .u64 n] 24 ∧ Blk v (w.heap.size + 1 + 1) #[.int .u64 xb, .int .u64 (hi (yb)), .int .u64 (lo (yb))] 28 ∧ Blk v (w5.heap.size) #[.int .u64 r.f.X, .int .u64 (hi (r.f.Y)), .int .u64 (lo (r.f.Y)), .int .u64 r.f.M, .int .u64 r.t.X, .int .u64 (hi (r.t.Y)), .int .u64 (lo (r.t.Y)), .int .u64 r.t.M, .bool r.b] 40 ∧ Blk v (w6.heap.size) #[.int .u64 s.f.X, .int .u64 (hi (s.f.Y)), .int .u64 (lo (s.f.Y)), .int .u64 s.f.M, .int .u64 s.t.X, .int .u64 (hi (s.t.Y)), .int .u64 (lo (s.t.Y)), .int .u64 s.t.M, .bool s.b] 40 ∧ Blk v (w7.heap.size) #[.int .u64 q.f.X, .int .u64 (hi (q.f.Y)), .int .u64 (lo (q.f.Y)), .int .u64 q.f.M, .int .u64 q.t.X, .int .u64 (hi (q.t.Y)), .int .u64 (lo (q.t.Y)), .int .u64 q.t.M, .bool q.b] 40 ∧ Blk v (w10.heap.size) #[.int .u64 (hi (p)), .int .u64 (lo (p))] 26) ⟨by (repeat' (first | (with_reducible (first | exact Below.refl _ _ | assumption | refine below_drewN ?_ _ | refine Below.drew ?_ | refine Below.alloc ?_ ?_ _ | refine Below.setCell ?_ ?_ _)) | go_size)), by (repeat' (first | (with_reducible (first | assumption | exact Blk.alloc_new _ _ _ (by first | rfl | (simp; done) | omega) | apply Blk.drewN | apply Blk.drew | apply Blk.alloc_old | apply Blk.set_same | apply Blk.set_other)) | (show (_ : Nat) ≠ _; first | omega | (simp; done) | (simp; omega)) | ((simp only [List.setIfInBounds_toArray, List.set_cons_succ, List.set_cons_zero]); (with_reducible exact rfl)) | (with_reducible exact rfl) | (show (_ : Array Value) = _; exact rfl))), by (repeat' (first | (with_reducible (first | assumption | exact Blk.alloc_new _ _ _ (by first | rfl | (simp; done) | omega) | apply Blk.drewN | apply Blk.drew | apply Blk.alloc_old | apply Blk.set_same | apply Blk.set_other)) | (show (_ : Nat) ≠ _; first | omega | (simp; done) | (simp; omega)) | ((simp only [List.setIfInBounds_toArray, List.set_cons_succ, List.set_cons_zero]); (with_reducible exact rfl)) | (with_reducible exact rfl) | (show (_ : Array Value) = _; exact rfl))), by (repeat' (first | (with_reducible (first | assumption | exact Blk.alloc_new _ _ _ (by first | rfl | (simp; done) | omega) | apply Blk.drewN | apply Blk.drew | apply Blk.alloc_old | apply Blk.set_same | apply Blk.set_other)) | (show (_ : Nat) ≠ _; first | omega | (simp; done) | (simp; omega)) | ((simp only [List.setIfInBounds_toArray, List.set_cons_succ, List.set_cons_zero]); (with_reducible exact rfl)) | (with_reducible exact rfl) | (show (_ : Array Value) = _; exact rfl))), by (repeat' (first | (with_reducible (first | assumption | exact Blk.alloc_new _ _ _ (by first | rfl | (simp; done) | omega) | apply Blk.drewN | apply Blk.drew | apply Blk.alloc_old | apply Blk.set_same | apply Blk.set_other)) | (show (_ : Nat) ≠ _; first | omega | (simp; done) | (simp; omega)) | ((simp only [List.setIfInBounds_toArray, List.set_cons_succ, List.set_cons_zero]); (with_reducible exact rfl)) | (with_reducible exact rfl) | (show (_ : Array Value) = _; exact rfl))), by (repeat' (first | (with_reducible (first | assumption | exact Blk.alloc_new _ _ _ (by first | rfl | (simp; done) | omega) | apply Blk.drewN | apply Blk.drew | apply Blk.alloc_old | apply Blk.set_same | apply Blk.set_other)) | (show (_ : Nat) ≠ _; first | omega | (simp; done) | (simp; omega)) | ((simp only [List.setIfInBounds_toArray, List.set_cons_succ, List.set_cons_zero]); (with_reducible exact rfl)) | (with_reducible exact rfl) | (show (_ : Array Value) = _; exact rfl))), by (repeat' (first | (with_reducible (first | assumption | exact Blk.alloc_new _ _ _ (by first | rfl | (simp; done) | omega) | apply Blk.drewN | apply Blk.drew | apply Blk.alloc_old | apply Blk.set_same | apply Blk.set_other)) | (show (_ : Nat) ≠ _; first | omega | (simp; done) | (simp; omega)) | ((simp only [List.setIfInBounds_toArray, List.set_cons_succ, List.set_cons_zero]); (with_reducible exact rfl)) | (with_reducible exact rfl) | (show (_ : Array Value) = _; exact rfl)))⟩ ?_
          rintro v11 ⟨gv11, Cv11, Bv11, Zv11, Sv11, Mv11, Vv11⟩
          have qC11 := blk_calm Cv11
          have qB11 := blk_calm Bv11
          have qZ11 := blk_calm Zv11
          have qS11 := blk_calm Sv11
          have qM11 := blk_calm Mv11
          have qV11 := blk_calm Vv11
          refine wp_region_quiet_below (by kernel_rfl) (by kernel_rfl) ?_
          repeat (go_big_quiet_step ((first
              | (go_at_call 22; (with_reducible exact Calls.regrown_of (runat s x e0 _ os xr Hv.out)))
              | (go_at_call 23; (with_reducible exact Calls.regrown_of (wcmpC e0 p c1 _ e01 p1 Hc1.out))))))
          refine wpQuiet_nil ?_
          intro _ hw'
          obtain ⟨pq, hw''⟩ := hw'
          subst hw''
          have hb11 := below_regrown v11 pq.d pq.os
          generalize Sort.grow (redrawn v11 pq.d) pq.os = w11 at *
          have C11 : Blk w11 (w.heap.size) #[.int .u64 m, .int .u64 d, .int .u64 n] 24 := Blk.below Cv11 hb11 Cv11.size
          have B11 : Blk w11 (w.heap.size + 1 + 1) #[.int .u64 xb, .int .u64 (hi (yb)), .int .u64 (lo (yb))] 28 := Blk.below Bv11 hb11 Bv11.size
          have Z11 : Blk w11 (w5.heap.size) #[.int .u64 r.f.X, .int .u64 (hi (r.f.Y)), .int .u64 (lo (r.f.Y)), .int .u64 r.f.M, .int .u64 r.t.X, .int .u64 (hi (r.t.Y)), .int .u64 (lo (r.t.Y)), .int .u64 r.t.M, .bool r.b] 40 := Blk.below Zv11 hb11 Zv11.size
          have S11 : Blk w11 (w6.heap.size) #[.int .u64 s.f.X, .int .u64 (hi (s.f.Y)), .int .u64 (lo (s.f.Y)), .int .u64 s.f.M, .int .u64 s.t.X, .int .u64 (hi (s.t.Y)), .int .u64 (lo (s.t.Y)), .int .u64 s.t.M, .bool s.b] 40 := Blk.below Sv11 hb11 Sv11.size
          have M11 : Blk w11 (w7.heap.size) #[.int .u64 q.f.X, .int .u64 (hi (q.f.Y)), .int .u64 (lo (q.f.Y)), .int .u64 q.f.M, .int .u64 q.t.X, .int .u64 (hi (q.t.Y)), .int .u64 (lo (q.t.Y)), .int .u64 q.t.M, .bool q.b] 40 := Blk.below Mv11 hb11 Mv11.size
          have V11 : Blk w11 (w10.heap.size) #[.int .u64 (hi (p)), .int .u64 (lo (p))] 26 := Blk.below Vv11 hb11 Vv11.size
          have g11 : Below w.heap.size w w11 := gv11.trans (hb11.mono gv11.size)
          have hz11 : w.heap.size ≤ w11.heap.size := g11.size
          clear hb11 gv11 Cv11 qC11 Bv11 qB11 Zv11 qZ11 Sv11 qS11 Mv11 qM11 Vv11 qV11
          replace cC := C11.cell
          replace fC := C11.frozen
          replace zC := C11.size
          replace cB := B11.cell
          replace fB := B11.frozen
          replace zB := B11.size
          replace cZ := Z11.cell
          replace fZ := Z11.frozen
          replace zZ := Z11.size
          replace cS := S11.cell
          replace fS := S11.frozen
          replace zS := S11.size
          replace cM := M11.cell
          replace fM := M11.frozen
          replace zM := M11.size
          have cV := V11.cell
          have fV := V11.frozen
          have zV := V11.size
          go_wp2_with fail
          refine wp_forget (fun v => Below w.heap.size w v ∧ Blk v (w.heap.size) #[.int .u64 m, .int .u64 d, .int .u64 n] 24 ∧ Blk v (w.heap.size + 1 + 1) #[.int .u64 xb, .int .u64 (hi (yb)), .int .u64 (lo (yb))] 28 ∧ Blk v (w5.heap.size) #[.int .u64 r.f.X, .int .u64 (hi (r.f.Y)), .int .u64 (lo (r.f.Y)), .int .u64 r.f.M, .int .u64 r.t.X, .int .u64 (hi (r.t.Y)), .int .u64 (lo (r.t.Y)), .int .u64 r.t.M, .bool r.b] 40 ∧ Blk v (w6.heap.size) #[.int .u64 s.f.X, .int .u64 (hi (s.f.Y)), .int .u64 (lo (s.f.Y)), .int .u64 s.f.M, .int .u64 s.t.X, .int .u64 (hi (s.t.Y)), .int .u64 (lo (s.t.Y)), .int .u64 s.t.M, .bool s.b] 40 ∧ Blk v (w7.heap.size) #[.int .u64 q.f.X, .int .u64 (hi (q.f.Y)), .int .u64 (lo (q.f.Y)), .int .u64 q.f.M, .int .u64 q.t.X, .int .u64 (hi (q.t.Y)), .int .u64 (lo (q.t.Y)), .int .u64 q.t.M, .bool q.b] 40 ∧ Blk v (w10.heap.size) #[.int .u64 (hi (p)), .int .u64 (lo (p))] 26) ⟨by (repeat' (first | (with_reducible (first | exact Below.refl _ _ | assumption | refine below_drewN ?_ _ | refine Below.drew ?_ | refine Below.alloc ?_ ?_ _ | refine Below.setCell ?_ ?_ _)) | go_size)), by (repeat' (first | (with_reducible (first | assumption | exact Blk.alloc_new _ _ _ (by first | rfl | (simp; done) | omega) | apply Blk.drewN | apply Blk.drew | apply Blk.alloc_old | apply Blk.set_same | apply Blk.set_other)) | (show (_ : Nat) ≠ _; first | omega | (simp; done) | (simp; omega)) | ((simp only [List.setIfInBounds_toArray, List.set_cons_succ, List.set_cons_zero]); (with_reducible exact rfl)) | (with_reducible exact rfl) | (show (_ : Array Value) = _; exact rfl))), by (repeat' (first | (with_reducible (first | assumption | exact Blk.alloc_new _ _ _ (by first | rfl | (simp; done) | omega) | apply Blk.drewN | apply Blk.drew | apply Blk.alloc_old | apply Blk.set_same | apply Blk.set_other)) | (show (_ : Nat) ≠ _; first | omega | (simp; done) | (simp; omega)) | ((simp only [List.setIfInBounds_toArray, List.set_cons_succ, List.set_cons_zero]); (with_reducible exact rfl)) | (with_reducible exact rfl) | (show (_ : Array Value) = _; exact rfl))), by (repeat' (first | (with_reducible (first | assumption | exact Blk.alloc_new _ _ _ (by first | rfl | (simp; done) | omega) | apply Blk.drewN | apply Blk.drew | apply Blk.alloc_old | apply Blk.set_same | apply Blk.set_other)) | (show (_ : Nat) ≠ _; first | omega | (simp; done) | (simp; omega)) | ((simp only [List.setIfInBounds_toArray, List.set_cons_succ, List.set_cons_zero]); (with_reducible exact rfl)) | (with_reducible exact rfl) | (show (_ : Array Value) = _; exact rfl))), by (repeat' (first | (with_reducible (first | assumption | exact Blk.alloc_new _ _ _ (by first | rfl | (simp; done) | omega) | apply Blk.drewN | apply Blk.drew | apply Blk.alloc_old | apply Blk.set_same | apply Blk.set_other)) | (show (_ : Nat) ≠ _; first | omega | (simp; done) | (simp; omega)) | ((simp only [List.setIfInBounds_toArray, List.set_cons_succ, List.set_cons_zero]); (with_reducible exact rfl)) | (with_reducible exact rfl) | (show (_ : Array Value) = _; exact rfl))), by (repeat' (first | (with_reducible (first | assumption | exact Blk.alloc_new _ _ _ (by first | rfl | (simp; done) | omega) | apply Blk.drewN | apply Blk.drew | apply Blk.alloc_old | apply Blk.set_same | apply Blk.set_other)) | (show (_ : Nat) ≠ _; first | omega | (simp; done) | (simp; omega)) | ((simp only [List.setIfInBounds_toArray, List.set_cons_succ, List.set_cons_zero]); (with_reducible exact rfl)) | (with_reducible exact rfl) | (show (_ : Array Value) = _; exact rfl))), by (repeat' (first | (with_reducible (first | assumption | exact Blk.alloc_new _ _ _ (by first | rfl | (simp; done) | omega) | apply Blk.drewN | apply Blk.drew | apply Blk.alloc_old | apply Blk.set_same | apply Blk.set_other)) | (show (_ : Nat) ≠ _; first | omega | (simp; done) | (simp; omega)) | ((simp only [List.setIfInBounds_toArray, List.set_cons_succ, List.set_cons_zero]); (with_reducible exact rfl)) | (with_reducible exact rfl) | (show (_ : Array Value) = _; exact rfl)))⟩ ?_
          rintro v13 ⟨gv13, Cv13, Bv13, Zv13, Sv13, Mv13, Vv13⟩
          have qC13 := blk_calm Cv13
          have qB13 := blk_calm Bv13
          have qZ13 := blk_calm Zv13
          have qS13 := blk_calm Sv13
          have qM13 := blk_calm Mv13
          have qV13 := blk_calm Vv13
          refine wp_region_quiet_below (by kernel_rfl) (by kernel_rfl) ?_
          repeat (go_big_quiet_step ((first
              | (go_at_call 22; (with_reducible exact Calls.regrown_of (runat q x p _ oq xr hqa'.out))))))
          refine wpQuiet_nil ?_
          intro _ hw'
          obtain ⟨pq, hw''⟩ := hw'
          subst hw''
          have hb13 := below_regrown v13 pq.d pq.os
          generalize Sort.grow (redrawn v13 pq.d) pq.os = w13 at *
          have C13 : Blk w13 (w.heap.size) #[.int .u64 m, .int .u64 d, .int .u64 n] 24 := Blk.below Cv13 hb13 Cv13.size
          have B13 : Blk w13 (w.heap.size + 1 + 1) #[.int .u64 xb, .int .u64 (hi (yb)), .int .u64 (lo (yb))] 28 := Blk.below Bv13 hb13 Bv13.size
          have Z13 : Blk w13 (w5.heap.size) #[.int .u64 r.f.X, .int .u64 (hi (r.f.Y)), .int .u64 (lo (r.f.Y)), .int .u64 r.f.M, .int .u64 r.t.X, .int .u64 (hi (r.t.Y)), .int .u64 (lo (r.t.Y)), .int .u64 r.t.M, .bool r.b] 40 := Blk.below Zv13 hb13 Zv13.size
          have S13 : Blk w13 (w6.heap.size) #[.int .u64 s.f.X, .int .u64 (hi (s.f.Y)), .int .u64 (lo (s.f.Y)), .int .u64 s.f.M, .int .u64 s.t.X, .int .u64 (hi (s.t.Y)), .int .u64 (lo (s.t.Y)), .int .u64 s.t.M, .bool s.b] 40 := Blk.below Sv13 hb13 Sv13.size
          have M13 : Blk w13 (w7.heap.size) #[.int .u64 q.f.X, .int .u64 (hi (q.f.Y)), .int .u64 (lo (q.f.Y)), .int .u64 q.f.M, .int .u64 q.t.X, .int .u64 (hi (q.t.Y)), .int .u64 (lo (q.t.Y)), .int .u64 q.t.M, .bool q.b] 40 := Blk.below Mv13 hb13 Mv13.size
          have V13 : Blk w13 (w10.heap.size) #[.int .u64 (hi (p)), .int .u64 (lo (p))] 26 := Blk.below Vv13 hb13 Vv13.size
          have g13 : Below w.heap.size w w13 := gv13.trans (hb13.mono gv13.size)
          have hz13 : w.heap.size ≤ w13.heap.size := g13.size
          clear hb13 gv13 Cv13 qC13 Bv13 qB13 Zv13 qZ13 Sv13 qS13 Mv13 qM13 Vv13 qV13
          replace cC := C13.cell
          replace fC := C13.frozen
          replace zC := C13.size
          replace cB := B13.cell
          replace fB := B13.frozen
          replace zB := B13.size
          replace cZ := Z13.cell
          replace fZ := Z13.frozen
          replace zZ := Z13.size
          replace cS := S13.cell
          replace fS := S13.frozen
          replace zS := S13.size
          replace cM := M13.cell
          replace fM := M13.frozen
          replace zM := M13.size
          replace cV := V13.cell
          replace fV := V13.frozen
          replace zV := V13.size
          go_upto_region 15 with (fail)
          go_cut [13, 14] (fun p13 p14 wx => ∃ X, p13 = .pointer (some ⟨X, 0, none⟩) ∧ p14 = .bool false ∧ Below w.heap.size w wx ∧ Blk wx (w.heap.size) #[.int .u64 m, .int .u64 d, .int .u64 n] 24 ∧ Blk wx (w.heap.size + 1 + 1) #[.int .u64 xb, .int .u64 (hi (yb)), .int .u64 (lo (yb))] 28 ∧ Blk wx (w5.heap.size) #[.int .u64 r.f.X, .int .u64 (hi (r.f.Y)), .int .u64 (lo (r.f.Y)), .int .u64 r.f.M, .int .u64 r.t.X, .int .u64 (hi (r.t.Y)), .int .u64 (lo (r.t.Y)), .int .u64 r.t.M, .bool r.b] 40 ∧ Blk wx (w6.heap.size) #[.int .u64 s.f.X, .int .u64 (hi (s.f.Y)), .int .u64 (lo (s.f.Y)), .int .u64 s.f.M, .int .u64 s.t.X, .int .u64 (hi (s.t.Y)), .int .u64 (lo (s.t.Y)), .int .u64 s.t.M, .bool s.b] 40 ∧ Blk wx (w7.heap.size) #[.int .u64 q.f.X, .int .u64 (hi (q.f.Y)), .int .u64 (lo (q.f.Y)), .int .u64 q.f.M, .int .u64 q.t.X, .int .u64 (hi (q.t.Y)), .int .u64 (lo (q.t.Y)), .int .u64 q.t.M, .bool q.b] 40 ∧ Blk wx X #[.int .u64 (hi (W)), .int .u64 (lo (W))] 26)
          case first =>
            go_region_held3 (fun v => (∀ i, v.cell? ⟨w.heap.size, i, none⟩ = #[.int .u64 m, .int .u64 d, .int .u64 n][i]?) ∧ w.heap.size < v.heap.size ∧ Blk v (w.heap.size) #[.int .u64 m, .int .u64 d, .int .u64 n] 24 ∧ (∀ i, v.cell? ⟨w.heap.size + 1 + 1, i, none⟩ = #[.int .u64 xb, .int .u64 (hi (yb)), .int .u64 (lo (yb))][i]?) ∧ w.heap.size + 1 + 1 < v.heap.size ∧ Blk v (w.heap.size + 1 + 1) #[.int .u64 xb, .int .u64 (hi (yb)), .int .u64 (lo (yb))] 28 ∧ (∀ i, v.cell? ⟨w5.heap.size, i, none⟩ = #[.int .u64 r.f.X, .int .u64 (hi (r.f.Y)), .int .u64 (lo (r.f.Y)), .int .u64 r.f.M, .int .u64 r.t.X, .int .u64 (hi (r.t.Y)), .int .u64 (lo (r.t.Y)), .int .u64 r.t.M, .bool r.b][i]?) ∧ w5.heap.size < v.heap.size ∧ Blk v (w5.heap.size) #[.int .u64 r.f.X, .int .u64 (hi (r.f.Y)), .int .u64 (lo (r.f.Y)), .int .u64 r.f.M, .int .u64 r.t.X, .int .u64 (hi (r.t.Y)), .int .u64 (lo (r.t.Y)), .int .u64 r.t.M, .bool r.b] 40 ∧ (∀ i, v.cell? ⟨w6.heap.size, i, none⟩ = #[.int .u64 s.f.X, .int .u64 (hi (s.f.Y)), .int .u64 (lo (s.f.Y)), .int .u64 s.f.M, .int .u64 s.t.X, .int .u64 (hi (s.t.Y)), .int .u64 (lo (s.t.Y)), .int .u64 s.t.M, .bool s.b][i]?) ∧ w6.heap.size < v.heap.size ∧ Blk v (w6.heap.size) #[.int .u64 s.f.X, .int .u64 (hi (s.f.Y)), .int .u64 (lo (s.f.Y)), .int .u64 s.f.M, .int .u64 s.t.X, .int .u64 (hi (s.t.Y)), .int .u64 (lo (s.t.Y)), .int .u64 s.t.M, .bool s.b] 40 ∧ (∀ i, v.cell? ⟨w7.heap.size, i, none⟩ = #[.int .u64 q.f.X, .int .u64 (hi (q.f.Y)), .int .u64 (lo (q.f.Y)), .int .u64 q.f.M, .int .u64 q.t.X, .int .u64 (hi (q.t.Y)), .int .u64 (lo (q.t.Y)), .int .u64 q.t.M, .bool q.b][i]?) ∧ w7.heap.size < v.heap.size ∧ Blk v (w7.heap.size) #[.int .u64 q.f.X, .int .u64 (hi (q.f.Y)), .int .u64 (lo (q.f.Y)), .int .u64 q.f.M, .int .u64 q.t.X, .int .u64 (hi (q.t.Y)), .int .u64 (lo (q.t.Y)), .int .u64 q.t.M, .bool q.b] 40 ∧ Below w.heap.size w v)
              (first
                | (refine ⟨?_, ?_, ?_, ?_, ?_, ?_, ?_, ?_, ?_, ?_, ?_, ?_, ?_, ?_, ?_, ?_⟩ <;> first | (with_reducible assumption) | ((repeat' (first | (with_reducible (first | assumption | exact Blk.alloc_new _ _ _ (by first | rfl | (simp; done) | omega) | apply Blk.drewN | apply Blk.drew | apply Blk.alloc_old | apply Blk.set_same | apply Blk.set_other)) | (show (_ : Nat) ≠ _; first | omega | (simp; done) | (simp; omega)) | ((simp only [List.setIfInBounds_toArray, List.set_cons_succ, List.set_cons_zero]); (with_reducible exact rfl)) | (with_reducible exact rfl) | (show (_ : Array Value) = _; exact rfl))); done) | ((repeat' (first | (with_reducible (first | exact Below.refl _ _ | assumption | refine below_drewN ?_ _ | refine Below.drew ?_ | refine Below.alloc ?_ ?_ _ | refine Below.setCell ?_ ?_ _)) | go_size)); done) | omega | (go_simp; done) | (simp; done) | (exact Blk.cell (by (repeat' (first | (with_reducible (first | assumption | exact Blk.alloc_new _ _ _ (by first | rfl | (simp; done) | omega) | apply Blk.drewN | apply Blk.drew | apply Blk.alloc_old | apply Blk.set_same | apply Blk.set_other)) | (show (_ : Nat) ≠ _; first | omega | (simp; done) | (simp; omega)) | ((simp only [List.setIfInBounds_toArray, List.set_cons_succ, List.set_cons_zero]); (with_reducible exact rfl)) | (with_reducible exact rfl) | (show (_ : Array Value) = _; exact rfl)))))))
              (first
                | (go_at_call 24; (with_reducible refine (wOfW _ (1 + k4) _ (by first | rfl | (simp only [hw0, hk4, hw8, hw5, hw6]; done) | (simp [hw0, hk4, hw8, hw5, hw6]; done) | (trace_state; fail)) (by omega) (by omega)).mono ?_); rintro e w' ⟨rfl, hb'⟩; have hbx : Below w.heap.size w w' := (by refine Below.trans ?_ (Below.mono hb' ?_) <;> (repeat' (first | (with_reducible (first | exact Below.refl _ _ | assumption | refine below_drewN ?_ _ | refine Below.drew ?_ | refine Below.alloc ?_ ?_ _ | refine Below.setCell ?_ ?_ _)) | go_size))); have hbs := hb'.size; (try simp at hbs); (try (first | have hX := Blk.below (Blk.alloc_new _ _ _ rfl) hb' (by first | (simp; done) | omega | (simp; omega)) | have hX := Blk.below (Blk.drew (Blk.alloc_new _ _ _ rfl)) hb' (by first | (simp; done) | omega | (simp; omega)) | have hX := Blk.below hX hb' (by first | (simp; done) | omega | (simp; omega)) | have hX := Blk.below hX.drew hb' (by first | (simp; done) | omega | (simp; omega)))); (try simp only [World.size_alloc] at hX); (try (have cX := hX.cell; have fX := hX.frozen; have zX := hX.size)); have hkC : Blk w' (w.heap.size) #[.int .u64 m, .int .u64 d, .int .u64 n] 24 := Blk.below (by (repeat' (first | (with_reducible (first | assumption | exact Blk.alloc_new _ _ _ (by first | rfl | (simp; done) | omega) | apply Blk.drewN | apply Blk.drew | apply Blk.alloc_old | apply Blk.set_same | apply Blk.set_other)) | (show (_ : Nat) ≠ _; first | omega | (simp; done) | (simp; omega)) | ((simp only [List.setIfInBounds_toArray, List.set_cons_succ, List.set_cons_zero]); (with_reducible exact rfl)) | (with_reducible exact rfl) | (show (_ : Array Value) = _; exact rfl)))) hb' (by first | (simp; done) | omega | (simp; omega)); have hqC := hkC.cell; have hzC := hkC.size; have hkB : Blk w' (w.heap.size + 1 + 1) #[.int .u64 xb, .int .u64 (hi (yb)), .int .u64 (lo (yb))] 28 := Blk.below (by (repeat' (first | (with_reducible (first | assumption | exact Blk.alloc_new _ _ _ (by first | rfl | (simp; done) | omega) | apply Blk.drewN | apply Blk.drew | apply Blk.alloc_old | apply Blk.set_same | apply Blk.set_other)) | (show (_ : Nat) ≠ _; first | omega | (simp; done) | (simp; omega)) | ((simp only [List.setIfInBounds_toArray, List.set_cons_succ, List.set_cons_zero]); (with_reducible exact rfl)) | (with_reducible exact rfl) | (show (_ : Array Value) = _; exact rfl)))) hb' (by first | (simp; done) | omega | (simp; omega)); have hqB := hkB.cell; have hzB := hkB.size; have hkZ : Blk w' (w5.heap.size) #[.int .u64 r.f.X, .int .u64 (hi (r.f.Y)), .int .u64 (lo (r.f.Y)), .int .u64 r.f.M, .int .u64 r.t.X, .int .u64 (hi (r.t.Y)), .int .u64 (lo (r.t.Y)), .int .u64 r.t.M, .bool r.b] 40 := Blk.below (by (repeat' (first | (with_reducible (first | assumption | exact Blk.alloc_new _ _ _ (by first | rfl | (simp; done) | omega) | apply Blk.drewN | apply Blk.drew | apply Blk.alloc_old | apply Blk.set_same | apply Blk.set_other)) | (show (_ : Nat) ≠ _; first | omega | (simp; done) | (simp; omega)) | ((simp only [List.setIfInBounds_toArray, List.set_cons_succ, List.set_cons_zero]); (with_reducible exact rfl)) | (with_reducible exact rfl) | (show (_ : Array Value) = _; exact rfl)))) hb' (by first | (simp; done) | omega | (simp; omega)); have hqZ := hkZ.cell; have hzZ := hkZ.size; have hkS : Blk w' (w6.heap.size) #[.int .u64 s.f.X, .int .u64 (hi (s.f.Y)), .int .u64 (lo (s.f.Y)), .int .u64 s.f.M, .int .u64 s.t.X, .int .u64 (hi (s.t.Y)), .int .u64 (lo (s.t.Y)), .int .u64 s.t.M, .bool s.b] 40 := Blk.below (by (repeat' (first | (with_reducible (first | assumption | exact Blk.alloc_new _ _ _ (by first | rfl | (simp; done) | omega) | apply Blk.drewN | apply Blk.drew | apply Blk.alloc_old | apply Blk.set_same | apply Blk.set_other)) | (show (_ : Nat) ≠ _; first | omega | (simp; done) | (simp; omega)) | ((simp only [List.setIfInBounds_toArray, List.set_cons_succ, List.set_cons_zero]); (with_reducible exact rfl)) | (with_reducible exact rfl) | (show (_ : Array Value) = _; exact rfl)))) hb' (by first | (simp; done) | omega | (simp; omega)); have hqS := hkS.cell; have hzS := hkS.size; have hkM : Blk w' (w7.heap.size) #[.int .u64 q.f.X, .int .u64 (hi (q.f.Y)), .int .u64 (lo (q.f.Y)), .int .u64 q.f.M, .int .u64 q.t.X, .int .u64 (hi (q.t.Y)), .int .u64 (lo (q.t.Y)), .int .u64 q.t.M, .bool q.b] 40 := Blk.below (by (repeat' (first | (with_reducible (first | assumption | exact Blk.alloc_new _ _ _ (by first | rfl | (simp; done) | omega) | apply Blk.drewN | apply Blk.drew | apply Blk.alloc_old | apply Blk.set_same | apply Blk.set_other)) | (show (_ : Nat) ≠ _; first | omega | (simp; done) | (simp; omega)) | ((simp only [List.setIfInBounds_toArray, List.set_cons_succ, List.set_cons_zero]); (with_reducible exact rfl)) | (with_reducible exact rfl) | (show (_ : Array Value) = _; exact rfl)))) hb' (by first | (simp; done) | omega | (simp; omega)); have hqM := hkM.cell; have hzM := hkM.size; clear hb')
                | (go_at_call 20; (with_reducible refine (wAddD yb (1 + k4) W _ hyb (by unfold In128; omega) HW.out W1).mono ?_); rintro e w' ⟨rfl, hb'⟩; have hbx : Below w.heap.size w w' := (by refine Below.trans ?_ (Below.mono hb' ?_) <;> (repeat' (first | (with_reducible (first | exact Below.refl _ _ | assumption | refine below_drewN ?_ _ | refine Below.drew ?_ | refine Below.alloc ?_ ?_ _ | refine Below.setCell ?_ ?_ _)) | go_size))); have hbs := hb'.size; (try simp at hbs); (try (first | have hX := Blk.below (Blk.alloc_new _ _ _ rfl) hb' (by first | (simp; done) | omega | (simp; omega)) | have hX := Blk.below (Blk.drew (Blk.alloc_new _ _ _ rfl)) hb' (by first | (simp; done) | omega | (simp; omega)) | have hX := Blk.below hX hb' (by first | (simp; done) | omega | (simp; omega)) | have hX := Blk.below hX.drew hb' (by first | (simp; done) | omega | (simp; omega)))); (try simp only [World.size_alloc] at hX); (try (have cX := hX.cell; have fX := hX.frozen; have zX := hX.size)); have hkC : Blk w' (w.heap.size) #[.int .u64 m, .int .u64 d, .int .u64 n] 24 := Blk.below (by (repeat' (first | (with_reducible (first | assumption | exact Blk.alloc_new _ _ _ (by first | rfl | (simp; done) | omega) | apply Blk.drewN | apply Blk.drew | apply Blk.alloc_old | apply Blk.set_same | apply Blk.set_other)) | (show (_ : Nat) ≠ _; first | omega | (simp; done) | (simp; omega)) | ((simp only [List.setIfInBounds_toArray, List.set_cons_succ, List.set_cons_zero]); (with_reducible exact rfl)) | (with_reducible exact rfl) | (show (_ : Array Value) = _; exact rfl)))) hb' (by first | (simp; done) | omega | (simp; omega)); have hqC := hkC.cell; have hzC := hkC.size; have hkB : Blk w' (w.heap.size + 1 + 1) #[.int .u64 xb, .int .u64 (hi (yb)), .int .u64 (lo (yb))] 28 := Blk.below (by (repeat' (first | (with_reducible (first | assumption | exact Blk.alloc_new _ _ _ (by first | rfl | (simp; done) | omega) | apply Blk.drewN | apply Blk.drew | apply Blk.alloc_old | apply Blk.set_same | apply Blk.set_other)) | (show (_ : Nat) ≠ _; first | omega | (simp; done) | (simp; omega)) | ((simp only [List.setIfInBounds_toArray, List.set_cons_succ, List.set_cons_zero]); (with_reducible exact rfl)) | (with_reducible exact rfl) | (show (_ : Array Value) = _; exact rfl)))) hb' (by first | (simp; done) | omega | (simp; omega)); have hqB := hkB.cell; have hzB := hkB.size; have hkZ : Blk w' (w5.heap.size) #[.int .u64 r.f.X, .int .u64 (hi (r.f.Y)), .int .u64 (lo (r.f.Y)), .int .u64 r.f.M, .int .u64 r.t.X, .int .u64 (hi (r.t.Y)), .int .u64 (lo (r.t.Y)), .int .u64 r.t.M, .bool r.b] 40 := Blk.below (by (repeat' (first | (with_reducible (first | assumption | exact Blk.alloc_new _ _ _ (by first | rfl | (simp; done) | omega) | apply Blk.drewN | apply Blk.drew | apply Blk.alloc_old | apply Blk.set_same | apply Blk.set_other)) | (show (_ : Nat) ≠ _; first | omega | (simp; done) | (simp; omega)) | ((simp only [List.setIfInBounds_toArray, List.set_cons_succ, List.set_cons_zero]); (with_reducible exact rfl)) | (with_reducible exact rfl) | (show (_ : Array Value) = _; exact rfl)))) hb' (by first | (simp; done) | omega | (simp; omega)); have hqZ := hkZ.cell; have hzZ := hkZ.size; have hkS : Blk w' (w6.heap.size) #[.int .u64 s.f.X, .int .u64 (hi (s.f.Y)), .int .u64 (lo (s.f.Y)), .int .u64 s.f.M, .int .u64 s.t.X, .int .u64 (hi (s.t.Y)), .int .u64 (lo (s.t.Y)), .int .u64 s.t.M, .bool s.b] 40 := Blk.below (by (repeat' (first | (with_reducible (first | assumption | exact Blk.alloc_new _ _ _ (by first | rfl | (simp; done) | omega) | apply Blk.drewN | apply Blk.drew | apply Blk.alloc_old | apply Blk.set_same | apply Blk.set_other)) | (show (_ : Nat) ≠ _; first | omega | (simp; done) | (simp; omega)) | ((simp only [List.setIfInBounds_toArray, List.set_cons_succ, List.set_cons_zero]); (with_reducible exact rfl)) | (with_reducible exact rfl) | (show (_ : Array Value) = _; exact rfl)))) hb' (by first | (simp; done) | omega | (simp; omega)); have hqS := hkS.cell; have hzS := hkS.size; have hkM : Blk w' (w7.heap.size) #[.int .u64 q.f.X, .int .u64 (hi (q.f.Y)), .int .u64 (lo (q.f.Y)), .int .u64 q.f.M, .int .u64 q.t.X, .int .u64 (hi (q.t.Y)), .int .u64 (lo (q.t.Y)), .int .u64 q.t.M, .bool q.b] 40 := Blk.below (by (repeat' (first | (with_reducible (first | assumption | exact Blk.alloc_new _ _ _ (by first | rfl | (simp; done) | omega) | apply Blk.drewN | apply Blk.drew | apply Blk.alloc_old | apply Blk.set_same | apply Blk.set_other)) | (show (_ : Nat) ≠ _; first | omega | (simp; done) | (simp; omega)) | ((simp only [List.setIfInBounds_toArray, List.set_cons_succ, List.set_cons_zero]); (with_reducible exact rfl)) | (with_reducible exact rfl) | (show (_ : Array Value) = _; exact rfl)))) hb' (by first | (simp; done) | omega | (simp; omega)); have hqM := hkM.cell; have hzM := hkM.size; clear hb'))
            all_goals
              go_wp2_with fail
              go_meet
              exact ⟨_, rfl, rfl, by (repeat' (first | (with_reducible (first | exact Below.refl _ _ | assumption | refine below_drewN ?_ _ | refine Below.drew ?_ | refine Below.alloc ?_ ?_ _ | refine Below.setCell ?_ ?_ _)) | go_size)), by (repeat' (first | (with_reducible (first | assumption | exact Blk.alloc_new _ _ _ (by first | rfl | (simp; done) | omega) | apply Blk.drewN | apply Blk.drew | apply Blk.alloc_old | apply Blk.set_same | apply Blk.set_other)) | (show (_ : Nat) ≠ _; first | omega | (simp; done) | (simp; omega)) | ((simp only [List.setIfInBounds_toArray, List.set_cons_succ, List.set_cons_zero]); (with_reducible exact rfl)) | (with_reducible exact rfl) | (show (_ : Array Value) = _; exact rfl))), by (repeat' (first | (with_reducible (first | assumption | exact Blk.alloc_new _ _ _ (by first | rfl | (simp; done) | omega) | apply Blk.drewN | apply Blk.drew | apply Blk.alloc_old | apply Blk.set_same | apply Blk.set_other)) | (show (_ : Nat) ≠ _; first | omega | (simp; done) | (simp; omega)) | ((simp only [List.setIfInBounds_toArray, List.set_cons_succ, List.set_cons_zero]); (with_reducible exact rfl)) | (with_reducible exact rfl) | (show (_ : Array Value) = _; exact rfl))), by (repeat' (first | (with_reducible (first | assumption | exact Blk.alloc_new _ _ _ (by first | rfl | (simp; done) | omega) | apply Blk.drewN | apply Blk.drew | apply Blk.alloc_old | apply Blk.set_same | apply Blk.set_other)) | (show (_ : Nat) ≠ _; first | omega | (simp; done) | (simp; omega)) | ((simp only [List.setIfInBounds_toArray, List.set_cons_succ, List.set_cons_zero]); (with_reducible exact rfl)) | (with_reducible exact rfl) | (show (_ : Array Value) = _; exact rfl))), by (repeat' (first | (with_reducible (first | assumption | exact Blk.alloc_new _ _ _ (by first | rfl | (simp; done) | omega) | apply Blk.drewN | apply Blk.drew | apply Blk.alloc_old | apply Blk.set_same | apply Blk.set_other)) | (show (_ : Nat) ≠ _; first | omega | (simp; done) | (simp; omega)) | ((simp only [List.setIfInBounds_toArray, List.set_cons_succ, List.set_cons_zero]); (with_reducible exact rfl)) | (with_reducible exact rfl) | (show (_ : Array Value) = _; exact rfl))), by (repeat' (first | (with_reducible (first | assumption | exact Blk.alloc_new _ _ _ (by first | rfl | (simp; done) | omega) | apply Blk.drewN | apply Blk.drew | apply Blk.alloc_old | apply Blk.set_same | apply Blk.set_other)) | (show (_ : Nat) ≠ _; first | omega | (simp; done) | (simp; omega)) | ((simp only [List.setIfInBounds_toArray, List.set_cons_succ, List.set_cons_zero]); (with_reducible exact rfl)) | (with_reducible exact rfl) | (show (_ : Array Value) = _; exact rfl))), by (repeat' (first | (with_reducible (first | assumption | exact Blk.alloc_new _ _ _ (by first | rfl | (simp; done) | omega) | apply Blk.drewN | apply Blk.drew | apply Blk.alloc_old | apply Blk.set_same | apply Blk.set_other)) | (show (_ : Nat) ≠ _; first | omega | (simp; done) | (simp; omega)) | ((simp only [List.setIfInBounds_toArray, List.set_cons_succ, List.set_cons_zero]); (with_reducible exact rfl)) | (with_reducible exact rfl) | (show (_ : Array Value) = _; exact rfl)))⟩
          case rest =>
            obtain ⟨PY, rfl, rfl, g14, C14, B14, Z14, S14, M14, Y14⟩ := hcut
            have hz14 := g14.size
            have cC := C14.cell; have fC := C14.frozen; have zC := C14.size
            have cB := B14.cell; have fB := B14.frozen; have zB := B14.size
            have cZ := Z14.cell; have fZ := Z14.frozen; have zZ := Z14.size
            have cS := S14.cell; have fS := S14.frozen; have zS := S14.size
            have cM := M14.cell; have fM := M14.frozen; have zM := M14.size
            have cY := Y14.cell; have fY := Y14.frozen; have zY := Y14.size
            go_wp2_with fail
            refine wp_forget (fun v => Below w.heap.size w v ∧ Blk v (w.heap.size) #[.int .u64 m, .int .u64 d, .int .u64 n] 24 ∧ Blk v (w.heap.size + 1 + 1) #[.int .u64 xb, .int .u64 (hi (yb)), .int .u64 (lo (yb))] 28 ∧ Blk v (w5.heap.size) #[.int .u64 r.f.X, .int .u64 (hi (r.f.Y)), .int .u64 (lo (r.f.Y)), .int .u64 r.f.M, .int .u64 r.t.X, .int .u64 (hi (r.t.Y)), .int .u64 (lo (r.t.Y)), .int .u64 r.t.M, .bool r.b] 40 ∧ Blk v (w6.heap.size) #[.int .u64 s.f.X, .int .u64 (hi (s.f.Y)), .int .u64 (lo (s.f.Y)), .int .u64 s.f.M, .int .u64 s.t.X, .int .u64 (hi (s.t.Y)), .int .u64 (lo (s.t.Y)), .int .u64 s.t.M, .bool s.b] 40 ∧ Blk v (w7.heap.size) #[.int .u64 q.f.X, .int .u64 (hi (q.f.Y)), .int .u64 (lo (q.f.Y)), .int .u64 q.f.M, .int .u64 q.t.X, .int .u64 (hi (q.t.Y)), .int .u64 (lo (q.t.Y)), .int .u64 q.t.M, .bool q.b] 40 ∧ Blk v (PY) #[.int .u64 (hi (W)), .int .u64 (lo (W))] 26) ⟨by (repeat' (first | (with_reducible (first | exact Below.refl _ _ | assumption | refine below_drewN ?_ _ | refine Below.drew ?_ | refine Below.alloc ?_ ?_ _ | refine Below.setCell ?_ ?_ _)) | go_size)), by (repeat' (first | (with_reducible (first | assumption | exact Blk.alloc_new _ _ _ (by first | rfl | (simp; done) | omega) | apply Blk.drewN | apply Blk.drew | apply Blk.alloc_old | apply Blk.set_same | apply Blk.set_other)) | (show (_ : Nat) ≠ _; first | omega | (simp; done) | (simp; omega)) | ((simp only [List.setIfInBounds_toArray, List.set_cons_succ, List.set_cons_zero]); (with_reducible exact rfl)) | (with_reducible exact rfl) | (show (_ : Array Value) = _; exact rfl))), by (repeat' (first | (with_reducible (first | assumption | exact Blk.alloc_new _ _ _ (by first | rfl | (simp; done) | omega) | apply Blk.drewN | apply Blk.drew | apply Blk.alloc_old | apply Blk.set_same | apply Blk.set_other)) | (show (_ : Nat) ≠ _; first | omega | (simp; done) | (simp; omega)) | ((simp only [List.setIfInBounds_toArray, List.set_cons_succ, List.set_cons_zero]); (with_reducible exact rfl)) | (with_reducible exact rfl) | (show (_ : Array Value) = _; exact rfl))), by (repeat' (first | (with_reducible (first | assumption | exact Blk.alloc_new _ _ _ (by first | rfl | (simp; done) | omega) | apply Blk.drewN | apply Blk.drew | apply Blk.alloc_old | apply Blk.set_same | apply Blk.set_other)) | (show (_ : Nat) ≠ _; first | omega | (simp; done) | (simp; omega)) | ((simp only [List.setIfInBounds_toArray, List.set_cons_succ, List.set_cons_zero]); (with_reducible exact rfl)) | (with_reducible exact rfl) | (show (_ : Array Value) = _; exact rfl))), by (repeat' (first | (with_reducible (first | assumption | exact Blk.alloc_new _ _ _ (by first | rfl | (simp; done) | omega) | apply Blk.drewN | apply Blk.drew | apply Blk.alloc_old | apply Blk.set_same | apply Blk.set_other)) | (show (_ : Nat) ≠ _; first | omega | (simp; done) | (simp; omega)) | ((simp only [List.setIfInBounds_toArray, List.set_cons_succ, List.set_cons_zero]); (with_reducible exact rfl)) | (with_reducible exact rfl) | (show (_ : Array Value) = _; exact rfl))), by (repeat' (first | (with_reducible (first | assumption | exact Blk.alloc_new _ _ _ (by first | rfl | (simp; done) | omega) | apply Blk.drewN | apply Blk.drew | apply Blk.alloc_old | apply Blk.set_same | apply Blk.set_other)) | (show (_ : Nat) ≠ _; first | omega | (simp; done) | (simp; omega)) | ((simp only [List.setIfInBounds_toArray, List.set_cons_succ, List.set_cons_zero]); (with_reducible exact rfl)) | (with_reducible exact rfl) | (show (_ : Array Value) = _; exact rfl))), by (repeat' (first | (with_reducible (first | assumption | exact Blk.alloc_new _ _ _ (by first | rfl | (simp; done) | omega) | apply Blk.drewN | apply Blk.drew | apply Blk.alloc_old | apply Blk.set_same | apply Blk.set_other)) | (show (_ : Nat) ≠ _; first | omega | (simp; done) | (simp; omega)) | ((simp only [List.setIfInBounds_toArray, List.set_cons_succ, List.set_cons_zero]); (with_reducible exact rfl)) | (with_reducible exact rfl) | (show (_ : Array Value) = _; exact rfl)))⟩ ?_
            rintro v15 ⟨gv15, Cv15, Bv15, Zv15, Sv15, Mv15, Yv15⟩
            have qC15 := blk_calm Cv15
            have qB15 := blk_calm Bv15
            have qZ15 := blk_calm Zv15
            have qS15 := blk_calm Sv15
            have qM15 := blk_calm Mv15
            have qY15 := blk_calm Yv15
            refine wp_region_quiet_below (by kernel_rfl) (by kernel_rfl) ?_
            repeat (go_big_quiet_step ((first
                | (go_at_call 25; (with_reducible exact Calls.regrown_of (runreach q W ta _ oq W1 hqr'.out)))
                | (go_at_call 25; (with_reducible exact Calls.regrown_of (runreach r W ta _ or W1 Hta.out)))
                | (go_at_call 25; (with_reducible exact Calls.regrown_of (runreach s W tb _ os W1 Htb.out))))))
            refine wpQuiet_nil ?_
            intro _ hw'
            obtain ⟨pq, hw''⟩ := hw'
            subst hw''
            have hb15 := below_regrown v15 pq.d pq.os
            generalize Sort.grow (redrawn v15 pq.d) pq.os = w15 at *
            have C15 : Blk w15 (w.heap.size) #[.int .u64 m, .int .u64 d, .int .u64 n] 24 := Blk.below Cv15 hb15 Cv15.size
            have B15 : Blk w15 (w.heap.size + 1 + 1) #[.int .u64 xb, .int .u64 (hi (yb)), .int .u64 (lo (yb))] 28 := Blk.below Bv15 hb15 Bv15.size
            have Z15 : Blk w15 (w5.heap.size) #[.int .u64 r.f.X, .int .u64 (hi (r.f.Y)), .int .u64 (lo (r.f.Y)), .int .u64 r.f.M, .int .u64 r.t.X, .int .u64 (hi (r.t.Y)), .int .u64 (lo (r.t.Y)), .int .u64 r.t.M, .bool r.b] 40 := Blk.below Zv15 hb15 Zv15.size
            have S15 : Blk w15 (w6.heap.size) #[.int .u64 s.f.X, .int .u64 (hi (s.f.Y)), .int .u64 (lo (s.f.Y)), .int .u64 s.f.M, .int .u64 s.t.X, .int .u64 (hi (s.t.Y)), .int .u64 (lo (s.t.Y)), .int .u64 s.t.M, .bool s.b] 40 := Blk.below Sv15 hb15 Sv15.size
            have M15 : Blk w15 (w7.heap.size) #[.int .u64 q.f.X, .int .u64 (hi (q.f.Y)), .int .u64 (lo (q.f.Y)), .int .u64 q.f.M, .int .u64 q.t.X, .int .u64 (hi (q.t.Y)), .int .u64 (lo (q.t.Y)), .int .u64 q.t.M, .bool q.b] 40 := Blk.below Mv15 hb15 Mv15.size
            have Y15 : Blk w15 (PY) #[.int .u64 (hi (W)), .int .u64 (lo (W))] 26 := Blk.below Yv15 hb15 Yv15.size
            have g15 : Below w.heap.size w w15 := gv15.trans (hb15.mono gv15.size)
            have hz15 : w.heap.size ≤ w15.heap.size := g15.size
            clear hb15 gv15 Cv15 qC15 Bv15 qB15 Zv15 qZ15 Sv15 qS15 Mv15 qM15 Yv15 qY15
            replace cC := C15.cell
            replace fC := C15.frozen
            replace zC := C15.size
            replace cB := B15.cell
            replace fB := B15.frozen
            replace zB := B15.size
            replace cZ := Z15.cell
            replace fZ := Z15.frozen
            replace zZ := Z15.size
            replace cS := S15.cell
            replace fS := S15.frozen
            replace zS := S15.size
            replace cM := M15.cell
            replace fM := M15.frozen
            replace zM := M15.size
            replace cY := Y15.cell
            replace fY := Y15.frozen
            replace zY := Y15.size
            go_wp2
            go_roundw
            case rel => exact ⟨k + 1, by omega, by go_num, by (repeat' (first | (with_reducible (first | exact Below.refl _ _ | assumption | refine below_drewN ?_ _ | refine Below.drew ?_ | refine Below.alloc ?_ ?_ _ | refine Below.setCell ?_ ?_ _)) | go_size)), by (repeat' (first | (with_reducible (first | assumption | exact Blk.alloc_new _ _ _ (by first | rfl | (simp; done) | omega) | apply Blk.drewN | apply Blk.drew | apply Blk.alloc_old | apply Blk.set_same | apply Blk.set_other)) | (show (_ : Nat) ≠ _; first | omega | (simp; done) | (simp; omega)) | ((simp only [List.setIfInBounds_toArray, List.set_cons_succ, List.set_cons_zero]); (with_reducible exact rfl)) | (with_reducible exact rfl) | (show (_ : Array Value) = _; exact rfl))), by (repeat' (first | (with_reducible (first | assumption | exact Blk.alloc_new _ _ _ (by first | rfl | (simp; done) | omega) | apply Blk.drewN | apply Blk.drew | apply Blk.alloc_old | apply Blk.set_same | apply Blk.set_other)) | (show (_ : Nat) ≠ _; first | omega | (simp; done) | (simp; omega)) | ((simp only [List.setIfInBounds_toArray, List.set_cons_succ, List.set_cons_zero]); (with_reducible exact rfl)) | (with_reducible exact rfl) | (show (_ : Array Value) = _; exact rfl))), by (repeat' (first | (with_reducible (first | assumption | exact Blk.alloc_new _ _ _ (by first | rfl | (simp; done) | omega) | apply Blk.drewN | apply Blk.drew | apply Blk.alloc_old | apply Blk.set_same | apply Blk.set_other)) | (show (_ : Nat) ≠ _; first | omega | (simp; done) | (simp; omega)) | ((simp only [List.setIfInBounds_toArray, List.set_cons_succ, List.set_cons_zero]); (with_reducible exact rfl)) | (with_reducible exact rfl) | (show (_ : Array Value) = _; exact rfl))), by (repeat' (first | (with_reducible (first | assumption | exact Blk.alloc_new _ _ _ (by first | rfl | (simp; done) | omega) | apply Blk.drewN | apply Blk.drew | apply Blk.alloc_old | apply Blk.set_same | apply Blk.set_other)) | (show (_ : Nat) ≠ _; first | omega | (simp; done) | (simp; omega)) | ((simp only [List.setIfInBounds_toArray, List.set_cons_succ, List.set_cons_zero]); (with_reducible exact rfl)) | (with_reducible exact rfl) | (show (_ : Array Value) = _; exact rfl))), by (repeat' (first | (with_reducible (first | assumption | exact Blk.alloc_new _ _ _ (by first | rfl | (simp; done) | omega) | apply Blk.drewN | apply Blk.drew | apply Blk.alloc_old | apply Blk.set_same | apply Blk.set_other)) | (show (_ : Nat) ≠ _; first | omega | (simp; done) | (simp; omega)) | ((simp only [List.setIfInBounds_toArray, List.set_cons_succ, List.set_cons_zero]); (with_reducible exact rfl)) | (with_reducible exact rfl) | (show (_ : Array Value) = _; exact rfl)))⟩
            case measure => simp [intOf]; omega
    · obtain rfl : k = 6 := by omega
      go_wp2_with fail
      refine (hundred06 _).mono ?_
      rintro e w10 ⟨rfl, hb10⟩
      have g10 : Below w.heap.size w w10 := by refine Below.trans ?_ (hb10.mono ?_) <;> (repeat' (first | (with_reducible (first | exact Below.refl _ _ | assumption | refine below_drewN ?_ _ | refine Below.drew ?_ | refine Below.alloc ?_ ?_ _ | refine Below.setCell ?_ ?_ _)) | go_size))
      have hz10 := hb10.size
      (try simp at hz10)
      clear hb10
      go_wp2
      go_ret
      exact ⟨rfl, by (repeat' (first | (with_reducible (first | exact Below.refl _ _ | assumption | refine below_drewN ?_ _ | refine Below.drew ?_ | refine Below.alloc ?_ ?_ _ | refine Below.setCell ?_ ?_ _)) | go_size))⟩
theorem LinesMeet_walk (m : Int) (hm : 0 ≤ m ∧ m ≤ 18446744073709551615) (d : Int) (hd : 0 ≤ d ∧ d ≤ 18446744073709551615) (n : Int) (hn : 0 ≤ n ∧ n ≤ 18446744073709551615) (xa : Int) (hxa : 0 ≤ xa ∧ xa ≤ 18446744073709551615) (a1 : Int) (ha1 : 0 ≤ a1 ∧ a1 ≤ 18446744073709551615) (a2 : Int) (ha2 : 0 ≤ a2 ∧ a2 ≤ 18446744073709551615) (xb : Int) (hxb : 0 ≤ xb ∧ xb ≤ 18446744073709551615) (b1 : Int) (hb1 : 0 ≤ b1 ∧ b1 ≤ 18446744073709551615) (b2 : Int) (hb2 : 0 ≤ b2 ∧ b2 ≤ 18446744073709551615) (w : World) :
    Calls Try.prog 6 #[.agg #[.int .u64 m, .int .u64 d, .int .u64 n], .agg #[.int .u64 xa, .int .u64 a1, .int .u64 a2], .agg #[.int .u64 xb, .int .u64 b1, .int .u64 b2]] w fun e w' => e = .returned (.bool true) ∧ Below w.heap.size w w' := by
  obtain ⟨ya, hya, rfl, rfl⟩ := wv_of ha1 ha2
  obtain ⟨yb, hyb, rfl, rfl⟩ := wv_of hb1 hb2
  rcases ha : (decide (xa < 4611686018427387904) && decide (hi ya < 1073741824)) with _ | _
  · exact LM_a m d n xa ya xb yb 0 w ha
  rcases hb : (decide (xb < 4611686018427387904) && decide (hi yb < 1073741824)) with _ | _
  · exact LM_b m d n xa ya xb yb 0 w ha hb
  by_cases h1 : xb < xa
  · exact LM_c m d n xa ya xb yb 0 w ha hb (decide_eq_true h1)
  have d1 := decide_eq_false h1
  by_cases h2 : yb < ya
  · exact LM_d m d n xa ya xb yb _ w ha hb d1 hya hyb rfl (cmp_neg h2)
  have k0 : decide (cmp yb ya < 0) = false := cmp_nlt (by omega)
  by_cases hk : kd m d n = 0
  · exact LM_e m d n xa ya xb yb _ w ha hb d1 hya hyb rfl k0 hm.1 hd.1 hn.1 (by simp [hk])
  have hc := CIn.of hm.1 hd.1 hn.1 hk
  obtain ⟨ha3, fa⟩ := fin_of hxa.1 hya ha
  obtain ⟨hb3, fb⟩ := fin_of hxb.1 hyb hb
  have sa := start_small hc fa; have sb := start_small hc fb
  exact LM_main m d n xa ya xb yb _ _ _ _ w ha hb d1 hm hd hn hc.2.2.1.2 hya hyb fb.2.2 rfl k0 (by simp [hk]) ⟨hxa.1, ha3⟩ ⟨hxb.1, hb3⟩ rfl (RN.small_ok sa) rfl (RN.small_ok sb) rfl (RN.meet_ok (RN.small_ok sa) (RN.small_ok sb))
    (fun x hx hx' => starts_at hc fa fb (by omega) hx (by omega)) (fun W hW => starts_reach hc fa fb (by omega) hW)
namespace linesMeetDone
theorem own : ownKnob Try.prog.godebug = none := by kernel_rfl
theorem laidOut : laidOutB Try.prog = true := by kernel_rfl
set_option maxRecDepth 100000 in
theorem lifted (os : Os) (started : os.Started) (H : Type) (enc : TypeId × Value → H) :
    ReturnsInHanded {} Try.checked os 6 .any (Rows.linesMeetSpec.pre6 enc Try.prog Try.f6 Rows.linesMeetRow.domain false) (Rows.linesMeetSpec.post enc Try.prog Try.f6 false true false false) := by
  refine returnsInHanded_of_change (C := Try.checked) own started (by kernel_rfl) Try.func6
    (ChangeSpec.witness6 (enc := enc) (C := Try.checked) false ⟨#[], #[.agg #[.int .u64 0, .int .u64 0, .int .u64 0], .agg #[.int .u64 0, .int .u64 0, .int .u64 0], .agg #[.int .u64 0, .int .u64 0, .int .u64 0]], []⟩ 8 (by kernel_rfl) (by kernel_rfl) (by kernel_rfl) (by kernel_rfl)) ?_
  intro W base args ds gs before hval0 hW hcnd _
  have hval : ∀ (j : Nat) t v, Try.f6.params[j]? = some t → args[j]? = some v → Value.okWide Try.prog W .any base t v := hval0
  have hW' := hW
  obtain ⟨p, q, hA0, hV, rfl, hfz, hnd⟩ := hW
  have hA : DataW.TrodAll enc Try.prog W 0 (fun _ => true) true Try.f6.params.toList args.toList ds p := hA0
  rw [Try.params6] at hA hval
  obtain ⟨v0, vs0, d0, ds0, p0, q0, hargs, rfl, rfl, h0, r0⟩ := trodAll_cons hA
  obtain ⟨v1, vs1, d1, ds1, p1, q1, rfl, rfl, rfl, h1, r1⟩ := trodAll_cons r0
  obtain ⟨v2, vs2, d2, ds2, p2, q2, rfl, rfl, rfl, h2, r2⟩ := trodAll_cons r1
  obtain ⟨rfl, rfl, rfl⟩ := trodAll_nil r2
  obtain rfl : args = #[v0, v1, v2] := by cases args; simp_all
  obtain ⟨rfl, rfl⟩ := trodVars_none hV
  have k0 := h0
  have lt0 : ∀ x ∈ p0, x.block < W.heap.size := by obtain ⟨m, hm⟩ := k0; exact DataW.trod_lt m _ _ _ hm
  obtain ⟨x0_0, x0_1, x0_2, y0_0, y0_1, y0_2, m0, rfl, hd0, hp0, q0_0, q0_1, q0_2⟩ := Joins.open_agg3 Try.underlying24 (by kernel_rfl) (show Try.prog.cellsOf 24 = 3 by kernel_rfl) (hval 0 24 v0 rfl rfl) h0
  obtain ⟨a0_0, e0_0, _, wf0_0⟩ := DataW.trod_int Try.underlying22 q0_0
  simp at e0_0
  subst e0_0
  have b0_0 := bounds_u64 wf0_0
  obtain ⟨a0_1, e0_1, _, wf0_1⟩ := DataW.trod_int Try.underlying22 q0_1
  simp at e0_1
  subst e0_1
  have b0_1 := bounds_u64 wf0_1
  obtain ⟨a0_2, e0_2, _, wf0_2⟩ := DataW.trod_int Try.underlying22 q0_2
  simp at e0_2
  subst e0_2
  have b0_2 := bounds_u64 wf0_2
  have k1 := h1
  have lt1 : ∀ x ∈ p1, x.block < W.heap.size := by obtain ⟨m, hm⟩ := k1; exact DataW.trod_lt m _ _ _ hm
  obtain ⟨a1_0, a1_1, a1_2, rfl, b1_0, b1_1, b1_2⟩ := open_from6 (hval 1 28 v1 rfl rfl) h1
  have k2 := h2
  have lt2 : ∀ x ∈ p2, x.block < W.heap.size := by obtain ⟨m, hm⟩ := k2; exact DataW.trod_lt m _ _ _ hm
  obtain ⟨a2_0, a2_1, a2_2, rfl, b2_0, b2_1, b2_2⟩ := open_from6 (hval 2 28 v2 rfl rfl) h2
  clear hA0 hval0
  refine (LinesMeet_walk a0_0 b0_0 a0_1 b0_1 a0_2 b0_2 a1_0 b1_0 a1_1 b1_1 a1_2 b1_2 a2_0 b2_0 a2_1 b2_1 a2_2 b2_2 W).mono fun e W' ⟨he, bel⟩ => ?_
  subst he
  exact ⟨_, rfl, _, _, _, [], _, [], hW', trodAll_mk1 (shut_bool Try.underlying4 _), (trodAll_cons_mk (Below.trod laidOut (by kernel_rfl) (of_decide_eq_true (by kernel_rfl)) k0 bel lt0) (trodAll_cons_mk (Below.trod laidOut (by kernel_rfl) (of_decide_eq_true (by kernel_rfl)) k1 bel lt1) (trodAll_cons_mk (Below.trod laidOut (by kernel_rfl) (of_decide_eq_true (by kernel_rfl)) k2 bel lt2) trodAll_mk0))), rfl, bel.frame _, fun h => by cases h⟩
theorem over : Rows.linesMeetRow.holds Try.pinned (OpenSpec.ofChange Rows.linesMeetSpec) :=
  OpenClaim.holds_of_wide 6 Try.f6 rfl rfl rfl rfl rfl rfl rfl ⟨rfl, rfl, rfl, rfl, rfl⟩ rfl rfl rfl rfl rfl (by kernel_rfl) Try.func6 (by kernel_rfl)
    (of_decide_eq_true (by kernel_rfl)) (by unfold Func.isWrapper; first | (rw [if_pos (by decide +kernel)]; kernel_rfl) | (rw [if_neg (by decide +kernel)]; exact ⟨rfl, rfl⟩))
    (fun os started H enc _ => lifted os started H enc)
end linesMeetDone
theorem LinesMeet_holds : Rows.LinesMeetSaid := linesMeetDone.over

end Go.Proofs.Ytaaoadbcgnedkaa
