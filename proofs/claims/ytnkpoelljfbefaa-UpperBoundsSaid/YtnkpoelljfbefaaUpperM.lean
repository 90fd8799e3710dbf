/-
  The walks of how many bytes a class sends at the most, and of its reference. Conditions: fields in range.
-/
import Derived.Test.YtnkpoelljfbefaaShareW
namespace Go.Proofs.Ytnkpoelljfbefaa
open Go.RowKit Go.Sort
set_option linter.unusedVariables false
set_option linter.unusedSimpArgs false
/-- How many bytes at the most. -/
def umost (m d n t L : Int) : Int := min (sk m d n t / 65536 + max L 0) 18446744073709551615
theorem FlR.cases {s z e : Int} (s1 : In128 s) (h : FlR s 65536 z e) : (e = 20 ∧ 18446744073709551615 < s / 65536) ∨ (e = 0 ∧ z = s / 65536 ∧ 0 ≤ z ∧ z ≤ 18446744073709551615) := by
  unfold FlR hi lo at h
  unfold In128 at s1
  omega
set_option maxHeartbeats 2000000 in
theorem most_any (m d n t L s z e : Int) (w : World) (hm : 0 ≤ m) (hd : 0 ≤ d) (hn : 0 ≤ n) (ht : 0 ≤ t ∧ t ≤ 18446744073709551615) (hL : -9223372036854775808 ≤ L ∧ L ≤ 9223372036854775807) (hs : sk m d n t = s) (s1 : In128 s) (hf : FlR s 65536 z e) (r : Int) (hr : min (s / 65536 + max L 0) 18446744073709551615 = r) :
    Calls Try.prog 28 #[.agg #[.int .u64 m, .int .u64 d, .int .u64 n], .int .u64 t, .int .i64 L] w fun x w' => x = .returned (.int .u64 r) ∧ Below w.heap.size w w' := by
  have hc := FlR.cases s1 hf
  obtain ⟨q, hq⟩ : ∃ q, s / 65536 = q := ⟨_, rfl⟩
  rw [hq] at hc hr
  have q0 : 0 ≤ q := by rw [← hq]; unfold In128 at s1; omega
  have Hs := hide hs; have Hf := hide hf; have Hr := hide hr; clear hs hf hr hq
  obtain ⟨M, hM⟩ : ∃ M, (if L < 0 then (0 : Int) else L) = M := ⟨_, rfl⟩
  have hM1 : M = max L 0 ∧ 0 ≤ M ∧ M ≤ 9223372036854775807 := by rw [← hM]; split <;> omega
  have hw : IntKind.u64.wrap M = M := IntWalk.u64_in _ ⟨by omega, by omega⟩
  rcases hc with ⟨rfl, c1⟩ | ⟨rfl, rfl, c2⟩
  · go_enter Try.func28, Try.ntmps28
    go_wp2_with fail
    refine (service_any m d n t s _ hm hd hn ht Hs.out).mono ?_
    rintro e w1 ⟨rfl, hb1⟩
    have C1 : Blk w1 (w.heap.size) #[.int .u64 m, .int .u64 d, .int .u64 n] 32 := Blk.below (by (repeat' (first | (with_reducible (first | assumption | exact Blk.alloc_new _ _ _ (by first | rfl | (simp; done) | omega) | apply Blk.drewN | apply Blk.drew | apply Blk.alloc_old | apply Blk.set_same | apply Blk.set_other)) | (show (_ : Nat) ≠ _; first | omega | (simp; done) | (simp; omega)) | ((simp only [List.setIfInBounds_toArray, List.set_cons_succ, List.set_cons_zero]); (with_reducible exact rfl)) | (with_reducible exact rfl) | (show (_ : Array Value) = _; exact rfl)))) hb1 (by first | (simp; done) | omega | (simp; omega))
    have g1 : Below w.heap.size w w1 := by refine Below.trans ?_ (hb1.mono ?_) <;> (repeat' (first | (with_reducible (first | exact Below.refl _ _ | assumption | refine below_drewN ?_ _ | refine Below.drew ?_ | refine Below.alloc ?_ ?_ _ | refine Below.setCell ?_ ?_ _)) | go_size))
    have hz1 := hb1.size
    (try simp at hz1)
    clear hb1
    replace cC := C1.cell
    replace fC := C1.frozen
    replace zC := C1.size
    go_wp2_with fail
    refine (floor_c s 65536 z 20 _ s1 (by omega) Hf.out).mono ?_
    rintro e w2 ⟨rfl, hb2⟩
    have C2 : Blk w2 (w.heap.size) #[.int .u64 m, .int .u64 d, .int .u64 n] 32 := Blk.below (by (repeat' (first | (with_reducible (first | assumption | exact Blk.alloc_new _ _ _ (by first | rfl | (simp; done) | omega) | apply Blk.drewN | apply Blk.drew | apply Blk.alloc_old | apply Blk.set_same | apply Blk.set_other)) | (show (_ : Nat) ≠ _; first | omega | (simp; done) | (simp; omega)) | ((simp only [List.setIfInBounds_toArray, List.set_cons_succ, List.set_cons_zero]); (with_reducible exact rfl)) | (with_reducible exact rfl) | (show (_ : Array Value) = _; exact rfl)))) hb2 (by first | (simp; done) | omega | (simp; omega))
    have g2 : Below w.heap.size w w2 := by refine Below.trans ?_ (hb2.mono ?_) <;> (repeat' (first | (with_reducible (first | exact Below.refl _ _ | assumption | refine below_drewN ?_ _ | refine Below.drew ?_ | refine Below.alloc ?_ ?_ _ | refine Below.setCell ?_ ?_ _)) | go_size))
    have hz2 := hb2.size
    (try simp at hz2)
    clear hb2
    replace cC := C2.cell
    replace fC := C2.frozen
    replace zC := C2.size
    go_wp2
    all_goals first
      | (exfalso; omega)
      | (go_ret; exact ⟨reti (by have := Hr.out; omega), by (repeat' (first | (with_reducible (first | exact Below.refl _ _ | assumption | refine below_drewN ?_ _ | refine Below.drew ?_ | refine Below.alloc ?_ ?_ _ | refine Below.setCell ?_ ?_ _)) | go_size))⟩)
  · by_cases c3 : 18446744073709551615 - M < z
    · have d3 : decide (18446744073709551615 - M < z) = true := decide_eq_true c3
      go_enter Try.func28, Try.ntmps28
      go_wp2_with fail
      refine (service_any m d n t s _ hm hd hn ht Hs.out).mono ?_
      rintro e w1 ⟨rfl, hb1⟩
      have C1 : Blk w1 (w.heap.size) #[.int .u64 m, .int .u64 d, .int .u64 n] 32 := Blk.below (by (repeat' (first | (with_reducible (first | assumption | exact Blk.alloc_new _ _ _ (by first | rfl | (simp; done) | omega) | apply Blk.drewN | apply Blk.drew | apply Blk.alloc_old | apply Blk.set_same | apply Blk.set_other)) | (show (_ : Nat) ≠ _; first | omega | (simp; done) | (simp; omega)) | ((simp only [List.setIfInBounds_toArray, List.set_cons_succ, List.set_cons_zero]); (with_reducible exact rfl)) | (with_reducible exact rfl) | (show (_ : Array Value) = _; exact rfl)))) hb1 (by first | (simp; done) | omega | (simp; omega))
      have g1 : Below w.heap.size w w1 := by refine Below.trans ?_ (hb1.mono ?_) <;> (repeat' (first | (with_reducible (first | exact Below.refl _ _ | assumption | refine below_drewN ?_ _ | refine Below.drew ?_ | refine Below.alloc ?_ ?_ _ | refine Below.setCell ?_ ?_ _)) | go_size))
      have hz1 := hb1.size
      (try simp at hz1)
      clear hb1
      replace cC := C1.cell
      replace fC := C1.frozen
      replace zC := C1.size
      go_wp2_with fail
      refine (floor_c s 65536 z 0 _ s1 (by omega) Hf.out).mono ?_
      rintro e w2 ⟨rfl, hb2⟩
      have C2 : Blk w2 (w.heap.size) #[.int .u64 m, .int .u64 d, .int .u64 n] 32 := Blk.below (by (repeat' (first | (with_reducible (first | assumption | exact Blk.alloc_new _ _ _ (by first | rfl | (simp; done) | omega) | apply Blk.drewN | apply Blk.drew | apply Blk.alloc_old | apply Blk.set_same | apply Blk.set_other)) | (show (_ : Nat) ≠ _; first | omega | (simp; done) | (simp; omega)) | ((simp only [List.setIfInBounds_toArray, List.set_cons_succ, List.set_cons_zero]); (with_reducible exact rfl)) | (with_reducible exact rfl) | (show (_ : Array Value) = _; exact rfl)))) hb2 (by first | (simp; done) | omega | (simp; omega))
      have g2 : Below w.heap.size w w2 := by refine Below.trans ?_ (hb2.mono ?_) <;> (repeat' (first | (with_reducible (first | exact Below.refl _ _ | assumption | refine below_drewN ?_ _ | refine Below.drew ?_ | refine Below.alloc ?_ ?_ _ | refine Below.setCell ?_ ?_ _)) | go_size))
      have hz2 := hb2.size
      (try simp at hz2)
      clear hb2
      replace cC := C2.cell
      replace fC := C2.frozen
      replace zC := C2.size
      go_wp2
      all_goals first
        | (exfalso; omega)
        | (go_ret; exact ⟨reti (by have := Hr.out; omega), by (repeat' (first | (with_reducible (first | exact Below.refl _ _ | assumption | refine below_drewN ?_ _ | refine Below.drew ?_ | refine Below.alloc ?_ ?_ _ | refine Below.setCell ?_ ?_ _)) | go_size))⟩)
    · have d3 : decide (18446744073709551615 - M < z) = false := decide_eq_false c3
      go_enter Try.func28, Try.ntmps28
      go_wp2_with fail
      refine (service_any m d n t s _ hm hd hn ht Hs.out).mono ?_
      rintro e w1 ⟨rfl, hb1⟩
      have C1 : Blk w1 (w.heap.size) #[.int .u64 m, .int .u64 d, .int .u64 n] 32 := Blk.below (by (repeat' (first | (with_reducible (first | assumption | exact Blk.alloc_new _ _ _ (by first | rfl | (simp; done) | omega) | apply Blk.drewN | apply Blk.drew | apply Blk.alloc_old | apply Blk.set_same | apply Blk.set_other)) | (show (_ : Nat) ≠ _; first | omega | (simp; done) | (simp; omega)) | ((simp only [List.setIfInBounds_toArray, List.set_cons_succ, List.set_cons_zero]); (with_reducible exact rfl)) | (with_reducible exact rfl) | (show (_ : Array Value) = _; exact rfl)))) hb1 (by first | (simp; done) | omega | (simp; omega))
      have g1 : Below w.heap.size w w1 := by refine Below.trans ?_ (hb1.mono ?_) <;> (repeat' (first | (with_reducible (first | exact Below.refl _ _ | assumption | refine below_drewN ?_ _ | refine Below.drew ?_ | refine Below.alloc ?_ ?_ _ | refine Below.setCell ?_ ?_ _)) | go_size))
      have hz1 := hb1.size
      (try simp at hz1)
      clear hb1
      replace cC := C1.cell
      replace fC := C1.frozen
      replace zC := C1.size
      go_wp2_with fail
      refine (floor_c s 65536 z 0 _ s1 (by omega) Hf.out).mono ?_
      rintro e w2 ⟨rfl, hb2⟩
      have C2 : Blk w2 (w.heap.size) #[.int .u64 m, .int .u64 d, .int .u64 n] 32 := Blk.below (by (repeat' (first | (with_reducible (first | assumption | exact Blk.alloc_new _ _ _ (by first | rfl | (simp; done) | omega) | apply Blk.drewN | apply Blk.drew | apply Blk.alloc_old | apply Blk.set_same | apply Blk.set_other)) | (show (_ : Nat) ≠ _; first | omega | (simp; done) | (simp; omega)) | ((simp only [List.setIfInBounds_toArray, List.set_cons_succ, List.set_cons_zero]); (with_reducible exact rfl)) | (with_reducible exact rfl) | (show (_ : Array Value) = _; exact rfl)))) hb2 (by first | (simp; done) | omega | (simp; omega))
      have g2 : Below w.heap.size w w2 := by refine Below.trans ?_ (hb2.mono ?_) <;> (repeat' (first | (with_reducible (first | exact Below.refl _ _ | assumption | refine below_drewN ?_ _ | refine Below.drew ?_ | refine Below.alloc ?_ ?_ _ | refine Below.setCell ?_ ?_ _)) | go_size))
      have hz2 := hb2.size
      (try simp at hz2)
      clear hb2
      replace cC := C2.cell
      replace fC := C2.frozen
      replace zC := C2.size
      go_wp2
      all_goals first
        | (exfalso; omega)
        | (go_ret; exact ⟨reti (by have := Hr.out; omega), by (repeat' (first | (with_reducible (first | exact Below.refl _ _ | assumption | refine below_drewN ?_ _ | refine Below.drew ?_ | refine Below.alloc ?_ ?_ _ | refine Below.setCell ?_ ?_ _)) | go_size))⟩)
theorem inner_any (a b r : Int) (w : World) (hr : max a b = r) :
    Calls Try.prog 29 #[.int .u64 a, .int .u64 b] w fun x w' => x = .returned (.int .u64 r) ∧ Below w.heap.size w w' := by
  have Hr := hide hr; clear hr
  by_cases h : a < b
  · go_enter Try.func29, Try.ntmps29
    go_wp2
    all_goals first
      | (exfalso; omega)
      | (go_ret; exact ⟨reti (by have := Hr.out; first | omega | (split <;> omega)), by (repeat' (first | (with_reducible (first | exact Below.refl _ _ | assumption | refine below_drewN ?_ _ | refine Below.drew ?_ | refine Below.alloc ?_ ?_ _ | refine Below.setCell ?_ ?_ _)) | go_size))⟩)
  · go_enter Try.func29, Try.ntmps29
    go_wp2
    all_goals first
      | (exfalso; omega)
      | (go_ret; exact ⟨reti (by have := Hr.out; first | omega | (split <;> omega)), by (repeat' (first | (with_reducible (first | exact Below.refl _ _ | assumption | refine below_drewN ?_ _ | refine Below.drew ?_ | refine Below.alloc ?_ ?_ _ | refine Below.setCell ?_ ?_ _)) | go_size))⟩)
set_option maxHeartbeats 4000000 in
theorem rmost_any (m d n t L s z e : Int) (w : World) (hm : 0 ≤ m) (hd : 0 ≤ d) (hn : 0 ≤ n) (ht : 0 ≤ t ∧ t ≤ 18446744073709551615) (hL : -9223372036854775808 ≤ L ∧ L ≤ 9223372036854775807) (hs : sk m d n t = s) (s1 : In128 s) (hf : FlR s 65536 z e) (r : Int) (hr : min (s / 65536 + max L 0) 18446744073709551615 = r) :
    Calls Try.prog 30 #[.agg #[.int .u64 m, .int .u64 d, .int .u64 n], .int .u64 t, .int .i64 L] w fun x w' => x = .returned (.int .u64 r) ∧ Below w.heap.size w w' := by
  have hc := FlR.cases s1 hf
  obtain ⟨q, hq⟩ : ∃ q, s / 65536 = q := ⟨_, rfl⟩
  rw [hq] at hc hr
  have q0 : 0 ≤ q := by rw [← hq]; unfold In128 at s1; omega
  have Hs := hide hs; have Hf := hide hf; have Hr := hide hr; clear hs hf hr hq
  have HM := hide (show ∀ v, Calls Try.prog 50 #[.agg #[.int .u64 0, .int .u64 0, .int .u64 0, .int .u64 0], nv 1] v fun e w' => e = .returned (nv 340282366920938463463374607431768211455) ∧ Below v.heap.size v w' from fun v => rMinus' 0 1 340282366920938463463374607431768211455 v (by unfold In128; omega) (by unfold In128; omega) (by rfl))
  rcases hc with ⟨rfl, c1⟩ | ⟨rfl, rfl, c2⟩
  · go_enter Try.func30, Try.ntmps30
    go_wp2_with fail
    refine (rservice_any m d n t s _ hm hd hn ht Hs.out).mono ?_
    rintro e w1 ⟨rfl, hb1⟩
    have C1 : Blk w1 (w.heap.size) #[.int .u64 m, .int .u64 d, .int .u64 n] 32 := Blk.below (by (repeat' (first | (with_reducible (first | assumption | exact Blk.alloc_new _ _ _ (by first | rfl | (simp; done) | omega) | apply Blk.drewN | apply Blk.drew | apply Blk.alloc_old | apply Blk.set_same | apply Blk.set_other)) | (show (_ : Nat) ≠ _; first | omega | (simp; done) | (simp; omega)) | ((simp only [List.setIfInBounds_toArray, List.set_cons_succ, List.set_cons_zero]); (with_reducible exact rfl)) | (with_reducible exact rfl) | (show (_ : Array Value) = _; exact rfl)))) hb1 (by first | (simp; done) | omega | (simp; omega))
    have g1 : Below w.heap.size w w1 := by refine Below.trans ?_ (hb1.mono ?_) <;> (repeat' (first | (with_reducible (first | exact Below.refl _ _ | assumption | refine below_drewN ?_ _ | refine Below.drew ?_ | refine Below.alloc ?_ ?_ _ | refine Below.setCell ?_ ?_ _)) | go_size))
    have hz1 := hb1.size
    (try simp at hz1)
    clear hb1
    replace cC := C1.cell
    replace fC := C1.frozen
    replace zC := C1.size
    go_wp2_with fail
    refine (rfloor_c s 65536 z 20 _ s1 (by omega) Hf.out).mono ?_
    rintro e w2 ⟨rfl, hb2⟩
    have C2 : Blk w2 (w.heap.size) #[.int .u64 m, .int .u64 d, .int .u64 n] 32 := Blk.below (by (repeat' (first | (with_reducible (first | assumption | exact Blk.alloc_new _ _ _ (by first | rfl | (simp; done) | omega) | apply Blk.drewN | apply Blk.drew | apply Blk.alloc_old | apply Blk.set_same | apply Blk.set_other)) | (show (_ : Nat) ≠ _; first | omega | (simp; done) | (simp; omega)) | ((simp only [List.setIfInBounds_toArray, List.set_cons_succ, List.set_cons_zero]); (with_reducible exact rfl)) | (with_reducible exact rfl) | (show (_ : Array Value) = _; exact rfl)))) hb2 (by first | (simp; done) | omega | (simp; omega))
    have g2 : Below w.heap.size w w2 := by refine Below.trans ?_ (hb2.mono ?_) <;> (repeat' (first | (with_reducible (first | exact Below.refl _ _ | assumption | refine below_drewN ?_ _ | refine Below.drew ?_ | refine Below.alloc ?_ ?_ _ | refine Below.setCell ?_ ?_ _)) | go_size))
    have hz2 := hb2.size
    (try simp at hz2)
    clear hb2
    replace cC := C2.cell
    replace fC := C2.frozen
    replace zC := C2.size
    go_wp2_with fail
    refine (rOf 1 _ (by omega) (by omega)).mono ?_
    rintro e w5 ⟨rfl, hb5⟩
    have g5 : Below w.heap.size w w5 := by refine Below.trans ?_ (hb5.mono ?_) <;> (repeat' (first | (with_reducible (first | exact Below.refl _ _ | assumption | refine below_drewN ?_ _ | refine Below.drew ?_ | refine Below.alloc ?_ ?_ _ | refine Below.setCell ?_ ?_ _)) | go_size))
    have hz5 := hb5.size
    (try simp at hz5)
    clear hb5
    go_wp2_with fail
    refine (HM.out _).mono ?_
    rintro e w6 ⟨rfl, hb6⟩
    have g6 : Below w.heap.size w w6 := by refine Below.trans ?_ (hb6.mono ?_) <;> (repeat' (first | (with_reducible (first | exact Below.refl _ _ | assumption | refine below_drewN ?_ _ | refine Below.drew ?_ | refine Below.alloc ?_ ?_ _ | refine Below.setCell ?_ ?_ _)) | go_size))
    have hz6 := hb6.size
    (try simp at hz6)
    clear hb6
    go_wp2_with fail
    refine (rLo' 340282366920938463463374607431768211455 18446744073709551615 _ (by rfl)).mono ?_
    rintro e w7 ⟨rfl, hb7⟩
    have g7 : Below w.heap.size w w7 := by refine Below.trans ?_ (hb7.mono ?_) <;> (repeat' (first | (with_reducible (first | exact Below.refl _ _ | assumption | refine below_drewN ?_ _ | refine Below.drew ?_ | refine Below.alloc ?_ ?_ _ | refine Below.setCell ?_ ?_ _)) | go_size))
    have hz7 := hb7.size
    (try simp at hz7)
    clear hb7
    go_wp2
    go_ret
    exact ⟨reti (by have := Hr.out; omega), by (repeat' (first | (with_reducible (first | exact Below.refl _ _ | assumption | refine below_drewN ?_ _ | refine Below.drew ?_ | refine Below.alloc ?_ ?_ _ | refine Below.setCell ?_ ?_ _)) | go_size))⟩
  · have iv : In128 z := by unfold In128; omega
    by_cases c3 : 0 < L
    · have d3 : decide (0 < L) = true := decide_eq_true c3
      have hwl : IntKind.u64.wrap L = L := IntWalk.u64_in _ ⟨by omega, by omega⟩
      obtain ⟨x, hx⟩ : ∃ x, z + L = x := ⟨_, rfl⟩
      have ix : In128 x := by unfold In128; omega
      have iL : In128 L := by unfold In128; omega
      have mx : m128 (z + L) = x := by unfold m128; unfold In128 at ix; omega
      have Mx := hide mx; clear mx
      by_cases c4 : hi x = 0
      · have d4 : decide (0 < hi x) = false := decide_eq_false (by omega)
        have hlo : lo x = x := by unfold lo; unfold hi at c4; unfold In128 at ix; omega
        have Hlo := hide hlo
        have xr : r = x := by have := Hr.out; unfold hi at c4; unfold In128 at ix; omega
        go_enter Try.func30, Try.ntmps30
        go_wp2_with fail
        refine (rservice_any m d n t s _ hm hd hn ht Hs.out).mono ?_
        rintro e w1 ⟨rfl, hb1⟩
        have C1 : Blk w1 (w.heap.size) #[.int .u64 m, .int .u64 d, .int .u64 n] 32 := Blk.below (by (repeat' (first | (with_reducible (first | assumption | exact Blk.alloc_new _ _ _ (by first | rfl | (simp; done) | omega) | apply Blk.drewN | apply Blk.drew | apply Blk.alloc_old | apply Blk.set_same | apply Blk.set_other)) | (show (_ : Nat) ≠ _; first | omega | (simp; done) | (simp; omega)) | ((simp only [List.setIfInBounds_toArray, List.set_cons_succ, List.set_cons_zero]); (with_reducible exact rfl)) | (with_reducible exact rfl) | (show (_ : Array Value) = _; exact rfl)))) hb1 (by first | (simp; done) | omega | (simp; omega))
        have g1 : Below w.heap.size w w1 := by refine Below.trans ?_ (hb1.mono ?_) <;> (repeat' (first | (with_reducible (first | exact Below.refl _ _ | assumption | refine below_drewN ?_ _ | refine Below.drew ?_ | refine Below.alloc ?_ ?_ _ | refine Below.setCell ?_ ?_ _)) | go_size))
        have hz1 := hb1.size
        (try simp at hz1)
        clear hb1
        replace cC := C1.cell
        replace fC := C1.frozen
        replace zC := C1.size
        go_wp2_with fail
        refine (rfloor_c s 65536 z 0 _ s1 (by omega) Hf.out).mono ?_
        rintro e w2 ⟨rfl, hb2⟩
        have C2 : Blk w2 (w.heap.size) #[.int .u64 m, .int .u64 d, .int .u64 n] 32 := Blk.below (by (repeat' (first | (with_reducible (first | assumption | exact Blk.alloc_new _ _ _ (by first | rfl | (simp; done) | omega) | apply Blk.drewN | apply Blk.drew | apply Blk.alloc_old | apply Blk.set_same | apply Blk.set_other)) | (show (_ : Nat) ≠ _; first | omega | (simp; done) | (simp; omega)) | ((simp only [List.setIfInBounds_toArray, List.set_cons_succ, List.set_cons_zero]); (with_reducible exact rfl)) | (with_reducible exact rfl) | (show (_ : Array Value) = _; exact rfl)))) hb2 (by first | (simp; done) | omega | (simp; omega))
        have g2 : Below w.heap.size w w2 := by refine Below.trans ?_ (hb2.mono ?_) <;> (repeat' (first | (with_reducible (first | exact Below.refl _ _ | assumption | refine below_drewN ?_ _ | refine Below.drew ?_ | refine Below.alloc ?_ ?_ _ | refine Below.setCell ?_ ?_ _)) | go_size))
        have hz2 := hb2.size
        (try simp at hz2)
        clear hb2
        replace cC := C2.cell
        replace fC := C2.frozen
        replace zC := C2.size
        go_wp2_with fail
        refine (rOf z _ c2.1 c2.2).mono ?_
        rintro e w3 ⟨rfl, hb3⟩
        have g3 : Below w.heap.size w w3 := by refine Below.trans ?_ (hb3.mono ?_) <;> (repeat' (first | (with_reducible (first | exact Below.refl _ _ | assumption | refine below_drewN ?_ _ | refine Below.drew ?_ | refine Below.alloc ?_ ?_ _ | refine Below.setCell ?_ ?_ _)) | go_size))
        have hz3 := hb3.size
        (try simp at hz3)
        clear hb3
        go_upto_region 6 with (fail)
        refine wp_forget (fun v => Below w.heap.size w v ∧ Blk v (w3.heap.size) #[.int .u64 (dg0 (z)), .int .u64 (dg1 (z)), .int .u64 (dg2 (z)), .int .u64 (dg3 (z))] 36) ⟨by (repeat' (first | (with_reducible (first | exact Below.refl _ _ | assumption | refine below_drewN ?_ _ | refine Below.drew ?_ | refine Below.alloc ?_ ?_ _ | refine Below.setCell ?_ ?_ _)) | go_size)), by (repeat' (first | (with_reducible (first | assumption | exact Blk.alloc_new _ _ _ (by first | rfl | (simp; done) | omega) | apply Blk.drewN | apply Blk.drew | apply Blk.alloc_old | apply Blk.set_same | apply Blk.set_other)) | (show (_ : Nat) ≠ _; first | omega | (simp; done) | (simp; omega)) | ((simp only [List.setIfInBounds_toArray, List.set_cons_succ, List.set_cons_zero]); (with_reducible exact rfl)) | (with_reducible exact rfl) | (show (_ : Array Value) = _; exact rfl)))⟩ ?_
        rintro w4 ⟨g4, N4⟩
        have hz4 := g4.size
        have cN := N4.cell
        have fN := N4.frozen
        have zN := N4.size
        go_region_with (first
            | (go_at_call 19; (with_reducible refine (rOf L _ (by omega) (by omega)).mono ?_); rintro e w' ⟨rfl, hb'⟩; have hbx : Below w.heap.size w w' := (by refine Below.trans ?_ (Below.mono hb' ?_) <;> (repeat' (first | (with_reducible (first | exact Below.refl _ _ | assumption | refine below_drewN ?_ _ | refine Below.drew ?_ | refine Below.alloc ?_ ?_ _ | refine Below.setCell ?_ ?_ _)) | go_size))); have hbs := hb'.size; (try simp at hbs); have hkN : Blk w' (w3.heap.size) #[.int .u64 (dg0 (z)), .int .u64 (dg1 (z)), .int .u64 (dg2 (z)), .int .u64 (dg3 (z))] 36 := Blk.below (by (repeat' (first | (with_reducible (first | assumption | exact Blk.alloc_new _ _ _ (by first | rfl | (simp; done) | omega) | apply Blk.drewN | apply Blk.drew | apply Blk.alloc_old | apply Blk.set_same | apply Blk.set_other)) | (show (_ : Nat) ≠ _; first | omega | (simp; done) | (simp; omega)) | ((simp only [List.setIfInBounds_toArray, List.set_cons_succ, List.set_cons_zero]); (with_reducible exact rfl)) | (with_reducible exact rfl) | (show (_ : Array Value) = _; exact rfl)))) hb' (by first | (simp; done) | omega | (simp; omega)); have cN := hkN.cell; have fN := hkN.frozen; have zN := hkN.size; clear hb')
            | (go_at_call 21; (with_reducible refine (rPlusM z L x _ iv iL Mx.out).mono ?_); rintro e w' ⟨rfl, hb'⟩; have hbx : Below w.heap.size w w' := (by refine Below.trans ?_ (Below.mono hb' ?_) <;> (repeat' (first | (with_reducible (first | exact Below.refl _ _ | assumption | refine below_drewN ?_ _ | refine Below.drew ?_ | refine Below.alloc ?_ ?_ _ | refine Below.setCell ?_ ?_ _)) | go_size))); have hbs := hb'.size; (try simp at hbs); have hkN : Blk w' (w3.heap.size) #[.int .u64 (dg0 (z)), .int .u64 (dg1 (z)), .int .u64 (dg2 (z)), .int .u64 (dg3 (z))] 36 := Blk.below (by (repeat' (first | (with_reducible (first | assumption | exact Blk.alloc_new _ _ _ (by first | rfl | (simp; done) | omega) | apply Blk.drewN | apply Blk.drew | apply Blk.alloc_old | apply Blk.set_same | apply Blk.set_other)) | (show (_ : Nat) ≠ _; first | omega | (simp; done) | (simp; omega)) | ((simp only [List.setIfInBounds_toArray, List.set_cons_succ, List.set_cons_zero]); (with_reducible exact rfl)) | (with_reducible exact rfl) | (show (_ : Array Value) = _; exact rfl)))) hb' (by first | (simp; done) | omega | (simp; omega)); have cN := hkN.cell; have fN := hkN.frozen; have zN := hkN.size; clear hb'))
        all_goals
          go_upto_region 7 with (fail)
          refine wp_forget (fun v => Below w.heap.size w v ∧ Blk v (w3.heap.size) #[.int .u64 (dg0 (x)), .int .u64 (dg1 (x)), .int .u64 (dg2 (x)), .int .u64 (dg3 (x))] 36) ⟨by (repeat' (first | (with_reducible (first | exact Below.refl _ _ | assumption | refine below_drewN ?_ _ | refine Below.drew ?_ | refine Below.alloc ?_ ?_ _ | refine Below.setCell ?_ ?_ _)) | go_size)), by (repeat' (first | (with_reducible (first | assumption | exact Blk.alloc_new _ _ _ (by first | rfl | (simp; done) | omega) | apply Blk.drewN | apply Blk.drew | apply Blk.alloc_old | apply Blk.set_same | apply Blk.set_other)) | (show (_ : Nat) ≠ _; first | omega | (simp; done) | (simp; omega)) | ((simp only [List.setIfInBounds_toArray, List.set_cons_succ, List.set_cons_zero]); (with_reducible exact rfl)) | (with_reducible exact rfl) | (show (_ : Array Value) = _; exact rfl)))⟩ ?_
          rintro w5 ⟨g5, N5⟩
          have hz5 := g5.size
          replace cN := N5.cell
          replace fN := N5.frozen
          replace zN := N5.size
          go_wp2_with fail
          refine (rHi x _).mono ?_
          rintro e w6 ⟨rfl, hb6⟩
          have N6 : Blk w6 (w3.heap.size) #[.int .u64 (dg0 (x)), .int .u64 (dg1 (x)), .int .u64 (dg2 (x)), .int .u64 (dg3 (x))] 36 := Blk.below (by (repeat' (first | (with_reducible (first | assumption | exact Blk.alloc_new _ _ _ (by first | rfl | (simp; done) | omega) | apply Blk.drewN | apply Blk.drew | apply Blk.alloc_old | apply Blk.set_same | apply Blk.set_other)) | (show (_ : Nat) ≠ _; first | omega | (simp; done) | (simp; omega)) | ((simp only [List.setIfInBounds_toArray, List.set_cons_succ, List.set_cons_zero]); (with_reducible exact rfl)) | (with_reducible exact rfl) | (show (_ : Array Value) = _; exact rfl)))) hb6 (by first | (simp; done) | omega | (simp; omega))
          have g6 : Below w.heap.size w w6 := by refine Below.trans ?_ (hb6.mono ?_) <;> (repeat' (first | (with_reducible (first | exact Below.refl _ _ | assumption | refine below_drewN ?_ _ | refine Below.drew ?_ | refine Below.alloc ?_ ?_ _ | refine Below.setCell ?_ ?_ _)) | go_size))
          have hz6 := hb6.size
          (try simp at hz6)
          clear hb6
          replace cN := N6.cell
          replace fN := N6.frozen
          replace zN := N6.size
          go_wp2_with fail
          refine (rLo' x x _ Hlo.out).mono ?_
          rintro e w7 ⟨rfl, hb7⟩
          have g7 : Below w.heap.size w w7 := by refine Below.trans ?_ (hb7.mono ?_) <;> (repeat' (first | (with_reducible (first | exact Below.refl _ _ | assumption | refine below_drewN ?_ _ | refine Below.drew ?_ | refine Below.alloc ?_ ?_ _ | refine Below.setCell ?_ ?_ _)) | go_size))
          have hz7 := hb7.size
          (try simp at hz7)
          clear hb7
          go_wp2
          go_ret
          exact ⟨reti xr.symm, by (repeat' (first | (with_reducible (first | exact Below.refl _ _ | assumption | refine below_drewN ?_ _ | refine Below.drew ?_ | refine Below.alloc ?_ ?_ _ | refine Below.setCell ?_ ?_ _)) | go_size))⟩
      · have hx0 := hi_rng x
        have d4 : decide (0 < hi x) = true := decide_eq_true (by omega)
        have xr : r = 18446744073709551615 := by have := Hr.out; unfold hi at c4 hx0; unfold In128 at ix; omega
        go_enter Try.func30, Try.ntmps30
        go_wp2_with fail
        refine (rservice_any m d n t s _ hm hd hn ht Hs.out).mono ?_
        rintro e w1 ⟨rfl, hb1⟩
        have C1 : Blk w1 (w.heap.size) #[.int .u64 m, .int .u64 d, .int .u64 n] 32 := Blk.below (by (repeat' (first | (with_reducible (first | assumption | exact Blk.alloc_new _ _ _ (by first | rfl | (simp; done) | omega) | apply Blk.drewN | apply Blk.drew | apply Blk.alloc_old | apply Blk.set_same | apply Blk.set_other)) | (show (_ : Nat) ≠ _; first | omega | (simp; done) | (simp; omega)) | ((simp only [List.setIfInBounds_toArray, List.set_cons_succ, List.set_cons_zero]); (with_reducible exact rfl)) | (with_reducible exact rfl) | (show (_ : Array Value) = _; exact rfl)))) hb1 (by first | (simp; done) | omega | (simp; omega))
        have g1 : Below w.heap.size w w1 := by refine Below.trans ?_ (hb1.mono ?_) <;> (repeat' (first | (with_reducible (first | exact Below.refl _ _ | assumption | refine below_drewN ?_ _ | refine Below.drew ?_ | refine Below.alloc ?_ ?_ _ | refine Below.setCell ?_ ?_ _)) | go_size))
        have hz1 := hb1.size
        (try simp at hz1)
        clear hb1
        replace cC := C1.cell
        replace fC := C1.frozen
        replace zC := C1.size
        go_wp2_with fail
        refine (rfloor_c s 65536 z 0 _ s1 (by omega) Hf.out).mono ?_
        rintro e w2 ⟨rfl, hb2⟩
        have C2 : Blk w2 (w.heap.size) #[.int .u64 m, .int .u64 d, .int .u64 n] 32 := Blk.below (by (repeat' (first | (with_reducible (first | assumption | exact Blk.alloc_new _ _ _ (by first | rfl | (simp; done) | omega) | apply Blk.drewN | apply Blk.drew | apply Blk.alloc_old | apply Blk.set_same | apply Blk.set_other)) | (show (_ : Nat) ≠ _; first | omega | (simp; done) | (simp; omega)) | ((simp only [List.setIfInBounds_toArray, List.set_cons_succ, List.set_cons_zero]); (with_reducible exact rfl)) | (with_reducible exact rfl) | (show (_ : Array Value) = _; exact rfl)))) hb2 (by first | (simp; done) | omega | (simp; omega))
        have g2 : Below w.heap.size w w2 := by refine Below.trans ?_ (hb2.mono ?_) <;> (repeat' (first | (with_reducible (first | exact Below.refl _ _ | assumption | refine below_drewN ?_ _ | refine Below.drew ?_ | refine Below.alloc ?_ ?_ _ | refine Below.setCell ?_ ?_ _)) | go_size))
        have hz2 := hb2.size
        (try simp at hz2)
        clear hb2
        replace cC := C2.cell
        replace fC := C2.frozen
        replace zC := C2.size
        go_wp2_with fail
        refine (rOf z _ c2.1 c2.2).mono ?_
        rintro e w3 ⟨rfl, hb3⟩
        have g3 : Below w.heap.size w w3 := by refine Below.trans ?_ (hb3.mono ?_) <;> (repeat' (first | (with_reducible (first | exact Below.refl _ _ | assumption | refine below_drewN ?_ _ | refine Below.drew ?_ | refine Below.alloc ?_ ?_ _ | refine Below.setCell ?_ ?_ _)) | go_size))
        have hz3 := hb3.size
        (try simp at hz3)
        clear hb3
        go_upto_region 6 with (fail)
        refine wp_forget (fun v => Below w.heap.size w v ∧ Blk v (w3.heap.size) #[.int .u64 (dg0 (z)), .int .u64 (dg1 (z)), .int .u64 (dg2 (z)), .int .u64 (dg3 (z))] 36) ⟨by (repeat' (first | (with_reducible (first | exact Below.refl _ _ | assumption | refine below_drewN ?_ _ | refine Below.drew ?_ | refine Below.alloc ?_ ?_ _ | refine Below.setCell ?_ ?_ _)) | go_size)), by (repeat' (first | (with_reducible (first | assumption | exact Blk.alloc_new _ _ _ (by first | rfl | (simp; done) | omega) | apply Blk.drewN | apply Blk.drew | apply Blk.alloc_old | apply Blk.set_same | apply Blk.set_other)) | (show (_ : Nat) ≠ _; first | omega | (simp; done) | (simp; omega)) | ((simp only [List.setIfInBounds_toArray, List.set_cons_succ, List.set_cons_zero]); (with_reducible exact rfl)) | (with_reducible exact rfl) | (show (_ : Array Value) = _; exact rfl)))⟩ ?_
        rintro w4 ⟨g4, N4⟩
        have hz4 := g4.size
        have cN := N4.cell
        have fN := N4.frozen
        have zN := N4.size
        go_region_with (first
            | (go_at_call 19; (with_reducible refine (rOf L _ (by omega) (by omega)).mono ?_); rintro e w' ⟨rfl, hb'⟩; have hbx : Below w.heap.size w w' := (by refine Below.trans ?_ (Below.mono hb' ?_) <;> (repeat' (first | (with_reducible (first | exact Below.refl _ _ | assumption | refine below_drewN ?_ _ | refine Below.drew ?_ | refine Below.alloc ?_ ?_ _ | refine Below.setCell ?_ ?_ _)) | go_size))); have hbs := hb'.size; (try simp at hbs); have hkN : Blk w' (w3.heap.size) #[.int .u64 (dg0 (z)), .int .u64 (dg1 (z)), .int .u64 (dg2 (z)), .int .u64 (dg3 (z))] 36 := Blk.below (by (repeat' (first | (with_reducible (first | assumption | exact Blk.alloc_new _ _ _ (by first | rfl | (simp; done) | omega) | apply Blk.drewN | apply Blk.drew | apply Blk.alloc_old | apply Blk.set_same | apply Blk.set_other)) | (show (_ : Nat) ≠ _; first | omega | (simp; done) | (simp; omega)) | ((simp only [List.setIfInBounds_toArray, List.set_cons_succ, List.set_cons_zero]); (with_reducible exact rfl)) | (with_reducible exact rfl) | (show (_ : Array Value) = _; exact rfl)))) hb' (by first | (simp; done) | omega | (simp; omega)); have cN := hkN.cell; have fN := hkN.frozen; have zN := hkN.size; clear hb')
            | (go_at_call 21; (with_reducible refine (rPlusM z L x _ iv iL Mx.out).mono ?_); rintro e w' ⟨rfl, hb'⟩; have hbx : Below w.heap.size w w' := (by refine Below.trans ?_ (Below.mono hb' ?_) <;> (repeat' (first | (with_reducible (first | exact Below.refl _ _ | assumption | refine below_drewN ?_ _ | refine Below.drew ?_ | refine Below.alloc ?_ ?_ _ | refine Below.setCell ?_ ?_ _)) | go_size))); have hbs := hb'.size; (try simp at hbs); have hkN : Blk w' (w3.heap.size) #[.int .u64 (dg0 (z)), .int .u64 (dg1 (z)), .int .u64 (dg2 (z)), .int .u64 (dg3 (z))] 36 := Blk.below (by (repeat' (first | (with_reducible (first | assumption | exact Blk.alloc_new _ _ _ (by first | rfl | (simp; done) | omega) | apply Blk.drewN | apply Blk.drew | apply Blk.alloc_old | apply Blk.set_same | apply Blk.set_other)) | (show (_ : Nat) ≠ _; first | omega | (simp; done) | (simp; omega)) | ((simp only [List.setIfInBounds_toArray, List.set_cons_succ, List.set_cons_zero]); (with_reducible exact rfl)) | (with_reducible exact rfl) | (show (_ : Array Value) = _; exact rfl)))) hb' (by first | (simp; done) | omega | (simp; omega)); have cN := hkN.cell; have fN := hkN.frozen; have zN := hkN.size; clear hb'))
        all_goals
          go_upto_region 7 with (fail)
          refine wp_forget (fun v => Below w.heap.size w v ∧ Blk v (w3.heap.size) #[.int .u64 (dg0 (x)), .int .u64 (dg1 (x)), .int .u64 (dg2 (x)), .int .u64 (dg3 (x))] 36) ⟨by (repeat' (first | (with_reducible (first | exact Below.refl _ _ | assumption | refine below_drewN ?_ _ | refine Below.drew ?_ | refine Below.alloc ?_ ?_ _ | refine Below.setCell ?_ ?_ _)) | go_size)), by (repeat' (first | (with_reducible (first | assumption | exact Blk.alloc_new _ _ _ (by first | rfl | (simp; done) | omega) | apply Blk.drewN | apply Blk.drew | apply Blk.alloc_old | apply Blk.set_same | apply Blk.set_other)) | (show (_ : Nat) ≠ _; first | omega | (simp; done) | (simp; omega)) | ((simp only [List.setIfInBounds_toArray, List.set_cons_succ, List.set_cons_zero]); (with_reducible exact rfl)) | (with_reducible exact rfl) | (show (_ : Array Value) = _; exact rfl)))⟩ ?_
          rintro w8 ⟨g8, N8⟩
          have hz8 := g8.size
          replace cN := N8.cell
          replace fN := N8.frozen
          replace zN := N8.size
          go_wp2_with fail
          refine (rHi x _).mono ?_
          rintro e w9 ⟨rfl, hb9⟩
          have N9 : Blk w9 (w3.heap.size) #[.int .u64 (dg0 (x)), .int .u64 (dg1 (x)), .int .u64 (dg2 (x)), .int .u64 (dg3 (x))] 36 := Blk.below (by (repeat' (first | (with_reducible (first | assumption | exact Blk.alloc_new _ _ _ (by first | rfl | (simp; done) | omega) | apply Blk.drewN | apply Blk.drew | apply Blk.alloc_old | apply Blk.set_same | apply Blk.set_other)) | (show (_ : Nat) ≠ _; first | omega | (simp; done) | (simp; omega)) | ((simp only [List.setIfInBounds_toArray, List.set_cons_succ, List.set_cons_zero]); (with_reducible exact rfl)) | (with_reducible exact rfl) | (show (_ : Array Value) = _; exact rfl)))) hb9 (by first | (simp; done) | omega | (simp; omega))
          have g9 : Below w.heap.size w w9 := by refine Below.trans ?_ (hb9.mono ?_) <;> (repeat' (first | (with_reducible (first | exact Below.refl _ _ | assumption | refine below_drewN ?_ _ | refine Below.drew ?_ | refine Below.alloc ?_ ?_ _ | refine Below.setCell ?_ ?_ _)) | go_size))
          have hz9 := hb9.size
          (try simp at hz9)
          clear hb9
          replace cN := N9.cell
          replace fN := N9.frozen
          replace zN := N9.size
          go_wp2_with fail
          refine (rOf 1 _ (by omega) (by omega)).mono ?_
          rintro e w5 ⟨rfl, hb5⟩
          have g5 : Below w.heap.size w w5 := by refine Below.trans ?_ (hb5.mono ?_) <;> (repeat' (first | (with_reducible (first | exact Below.refl _ _ | assumption | refine below_drewN ?_ _ | refine Below.drew ?_ | refine Below.alloc ?_ ?_ _ | refine Below.setCell ?_ ?_ _)) | go_size))
          have hz5 := hb5.size
          (try simp at hz5)
          clear hb5
          go_wp2_with fail
          refine (HM.out _).mono ?_
          rintro e w6 ⟨rfl, hb6⟩
          have g6 : Below w.heap.size w w6 := by refine Below.trans ?_ (hb6.mono ?_) <;> (repeat' (first | (with_reducible (first | exact Below.refl _ _ | assumption | refine below_drewN ?_ _ | refine Below.drew ?_ | refine Below.alloc ?_ ?_ _ | refine Below.setCell ?_ ?_ _)) | go_size))
          have hz6 := hb6.size
          (try simp at hz6)
          clear hb6
          go_wp2_with fail
          refine (rLo' 340282366920938463463374607431768211455 18446744073709551615 _ (by rfl)).mono ?_
          rintro e w7 ⟨rfl, hb7⟩
          have g7 : Below w.heap.size w w7 := by refine Below.trans ?_ (hb7.mono ?_) <;> (repeat' (first | (with_reducible (first | exact Below.refl _ _ | assumption | refine below_drewN ?_ _ | refine Below.drew ?_ | refine Below.alloc ?_ ?_ _ | refine Below.setCell ?_ ?_ _)) | go_size))
          have hz7 := hb7.size
          (try simp at hz7)
          clear hb7
          go_wp2
          go_ret
          exact ⟨reti (by have := Hr.out; omega), by (repeat' (first | (with_reducible (first | exact Below.refl _ _ | assumption | refine below_drewN ?_ _ | refine Below.drew ?_ | refine Below.alloc ?_ ?_ _ | refine Below.setCell ?_ ?_ _)) | go_size))⟩
    · have d3 : decide (0 < L) = false := decide_eq_false c3
      have hhi : hi z = 0 := by unfold hi; omega
      have hlo : lo z = z := by unfold lo; omega
      have d4 : decide (0 < hi z) = false := decide_eq_false (by omega)
      have Hlo := hide hlo
      go_enter Try.func30, Try.ntmps30
      go_wp2_with fail
      refine (rservice_any m d n t s _ hm hd hn ht Hs.out).mono ?_
      rintro e w1 ⟨rfl, hb1⟩
      have C1 : Blk w1 (w.heap.size) #[.int .u64 m, .int .u64 d, .int .u64 n] 32 := Blk.below (by (repeat' (first | (with_reducible (first | assumption | exact Blk.alloc_new _ _ _ (by first | rfl | (simp; done) | omega) | apply Blk.drewN | apply Blk.drew | apply Blk.alloc_old | apply Blk.set_same | apply Blk.set_other)) | (show (_ : Nat) ≠ _; first | omega | (simp; done) | (simp; omega)) | ((simp only [List.setIfInBounds_toArray, List.set_cons_succ, List.set_cons_zero]); (with_reducible exact rfl)) | (with_reducible exact rfl) | (show (_ : Array Value) = _; exact rfl)))) hb1 (by first | (simp; done) | omega | (simp; omega))
      have g1 : Below w.heap.size w w1 := by refine Below.trans ?_ (hb1.mono ?_) <;> (repeat' (first | (with_reducible (first | exact Below.refl _ _ | assumption | refine below_drewN ?_ _ | refine Below.drew ?_ | refine Below.alloc ?_ ?_ _ | refine Below.setCell ?_ ?_ _)) | go_size))
      have hz1 := hb1.size
      (try simp at hz1)
      clear hb1
      replace cC := C1.cell
      replace fC := C1.frozen
      replace zC := C1.size
      go_wp2_with fail
      refine (rfloor_c s 65536 z 0 _ s1 (by omega) Hf.out).mono ?_
      rintro e w2 ⟨rfl, hb2⟩
      have C2 : Blk w2 (w.heap.size) #[.int .u64 m, .int .u64 d, .int .u64 n] 32 := Blk.below (by (repeat' (first | (with_reducible (first | assumption | exact Blk.alloc_new _ _ _ (by first | rfl | (simp; done) | omega) | apply Blk.drewN | apply Blk.drew | apply Blk.alloc_old | apply Blk.set_same | apply Blk.set_other)) | (show (_ : Nat) ≠ _; first | omega | (simp; done) | (simp; omega)) | ((simp only [List.setIfInBounds_toArray, List.set_cons_succ, List.set_cons_zero]); (with_reducible exact rfl)) | (with_reducible exact rfl) | (show (_ : Array Value) = _; exact rfl)))) hb2 (by first | (simp; done) | omega | (simp; omega))
      have g2 : Below w.heap.size w w2 := by refine Below.trans ?_ (hb2.mono ?_) <;> (repeat' (first | (with_reducible (first | exact Below.refl _ _ | assumption | refine below_drewN ?_ _ | refine Below.drew ?_ | refine Below.alloc ?_ ?_ _ | refine Below.setCell ?_ ?_ _)) | go_size))
      have hz2 := hb2.size
      (try simp at hz2)
      clear hb2
      replace cC := C2.cell
      replace fC := C2.frozen
      replace zC := C2.size
      go_wp2_with fail
      refine (rOf z _ c2.1 c2.2).mono ?_
      rintro e w3 ⟨rfl, hb3⟩
      have g3 : Below w.heap.size w w3 := by refine Below.trans ?_ (hb3.mono ?_) <;> (repeat' (first | (with_reducible (first | exact Below.refl _ _ | assumption | refine below_drewN ?_ _ | refine Below.drew ?_ | refine Below.alloc ?_ ?_ _ | refine Below.setCell ?_ ?_ _)) | go_size))
      have hz3 := hb3.size
      (try simp at hz3)
      clear hb3
      go_wp2_with fail
      refine (rHi z _).mono ?_
      rintro e w6 ⟨rfl, hb6⟩
      have N6 : Blk w6 (w3.heap.size) #[.int .u64 (dg0 (z)), .int .u64 (dg1 (z)), .int .u64 (dg2 (z)), .int .u64 (dg3 (z))] 36 := Blk.below (by (repeat' (first | (with_reducible (first | assumption | exact Blk.alloc_new _ _ _ (by first | rfl | (simp; done) | omega) | apply Blk.drewN | apply Blk.drew | apply Blk.alloc_old | apply Blk.set_same | apply Blk.set_other)) | (show (_ : Nat) ≠ _; first | omega | (simp; done) | (simp; omega)) | ((simp only [List.setIfInBounds_toArray, List.set_cons_succ, List.set_cons_zero]); (with_reducible exact rfl)) | (with_reducible exact rfl) | (show (_ : Array Value) = _; exact rfl)))) hb6 (by first | (simp; done) | omega | (simp; omega))
      have g6 : Below w.heap.size w w6 := by refine Below.trans ?_ (hb6.mono ?_) <;> (repeat' (first | (with_reducible (first | exact Below.refl _ _ | assumption | refine below_drewN ?_ _ | refine Below.drew ?_ | refine Below.alloc ?_ ?_ _ | refine Below.setCell ?_ ?_ _)) | go_size))
      have hz6 := hb6.size
      (try simp at hz6)
      clear hb6
      replace cN := N6.cell
      replace fN := N6.frozen
      replace zN := N6.size
      go_wp2_with fail
      refine (rLo' z z _ Hlo.out).mono ?_
      rintro e w7 ⟨rfl, hb7⟩
      have g7 : Below w.heap.size w w7 := by refine Below.trans ?_ (hb7.mono ?_) <;> (repeat' (first | (with_reducible (first | exact Below.refl _ _ | assumption | refine below_drewN ?_ _ | refine Below.drew ?_ | refine Below.alloc ?_ ?_ _ | refine Below.setCell ?_ ?_ _)) | go_size))
      have hz7 := hb7.size
      (try simp at hz7)
      clear hb7
      go_wp2
      go_ret
      exact ⟨reti (by have := Hr.out; omega), by (repeat' (first | (with_reducible (first | exact Below.refl _ _ | assumption | refine below_drewN ?_ _ | refine Below.drew ?_ | refine Below.alloc ?_ ?_ _ | refine Below.setCell ?_ ?_ _)) | go_size))⟩
end Go.Proofs.Ytnkpoelljfbefaa
