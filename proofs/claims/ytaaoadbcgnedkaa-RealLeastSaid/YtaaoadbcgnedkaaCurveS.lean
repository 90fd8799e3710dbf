/-
  The walks of curve.Service, behind and Ticks, and of their references, at any curve. Conditions: fields in range.
-/
import Derived.Test.YtaaoadbcgnedkaaCurveM
import Derived.Test.YtaaoadbcgnedkaaCurveT
namespace Go.Proofs.Ytaaoadbcgnedkaa
open Go.RowKit
set_option linter.unusedVariables false
set_option linter.unusedSimpArgs false
theorem wv0 : Value.agg #[.int .u64 0, .int .u64 0] = wv 0 := wv_eq (by omega) (by omega) (by omega)
theorem nv0 : Value.agg #[.int .u64 0, .int .u64 0, .int .u64 0, .int .u64 0] = nv 0 := nv_eq (by omega) (by omega) (by omega) (by omega) (by omega)
theorem rMulC (a b p : Int) (w : World) (ha : 0 ≤ a ∧ a ≤ 18446744073709551615) (hb : 0 ≤ b ∧ b ≤ 18446744073709551615) (hp : a * b = p) :
    Calls Try.prog 47 #[.int .u64 a, .int .u64 b] w fun e w' => e = .returned (nv p) ∧ Below w.heap.size w w' := by subst hp; exact rMul a b w ha.1 ha.2 hb.1 hb.2
theorem rMulW (a x b p : Int) (w : World) (ha : 0 ≤ a ∧ a ≤ 18446744073709551615) (hb : 0 ≤ b ∧ b ≤ 18446744073709551615) (hx : x = b) (hp : a * b = p) :
    Calls Try.prog 47 #[.int .u64 a, .int .u64 x] w fun e w' => e = .returned (nv p) ∧ Below w.heap.size w w' := by subst hx; exact rMulC a x p w ha hb hp
theorem rLessC (a b : Int) (c : Bool) (w : World) (ha : In128 a) (hb : In128 b) (hc : decide (a < b) = c) :
    Calls Try.prog 42 #[nv a, nv b] w fun e w' => e = .returned (.bool c) ∧ Below w.heap.size w w' := by subst hc; exact rLess a b w ha hb
theorem service_bad (m d n t : Int) (w : World) (hm : 0 ≤ m) (hd : 0 ≤ d) (hn : 0 ≤ n) (hk : (kd m d n != 0) = false) :
    Calls Try.prog 21 #[.agg #[.int .u64 m, .int .u64 d, .int .u64 n], .int .u64 t] w fun e w' => e = .returned (wv 0) ∧ Below w.heap.size w w' := by
  go_enter Try.func21, Try.ntmps21
  go_wp2_with fail
  refine (crightC m d n _ ⟨hm, hd, hn⟩ false hk).mono ?_
  rintro e w1 ⟨rfl, hb1⟩
  have C1 : Blk w1 (w.heap.size) #[.int .u64 m, .int .u64 d, .int .u64 n] 24 := Blk.below (by (repeat' (first | (with_reducible (first | assumption | exact Blk.alloc_new _ _ _ (by first | rfl | (simp; done) | omega) | apply Blk.drewN | apply Blk.drew | apply Blk.alloc_old | apply Blk.set_same | apply Blk.set_other)) | (show (_ : Nat) ≠ _; first | omega | (simp; done) | (simp; omega)) | ((simp only [List.setIfInBounds_toArray, List.set_cons_succ, List.set_cons_zero]); (with_reducible exact rfl)) | (with_reducible exact rfl) | (show (_ : Array Value) = _; exact rfl)))) hb1 (by first | (simp; done) | omega | (simp; omega))
  have R1 : Blk w1 (w.heap.size + 1) #[.int .u64 0, .int .u64 0] 26 := Blk.below (by (repeat' (first | (with_reducible (first | assumption | exact Blk.alloc_new _ _ _ (by first | rfl | (simp; done) | omega) | apply Blk.drewN | apply Blk.drew | apply Blk.alloc_old | apply Blk.set_same | apply Blk.set_other)) | (show (_ : Nat) ≠ _; first | omega | (simp; done) | (simp; omega)) | ((simp only [List.setIfInBounds_toArray, List.set_cons_succ, List.set_cons_zero]); (with_reducible exact rfl)) | (with_reducible exact rfl) | (show (_ : Array Value) = _; exact rfl)))) hb1 (by first | (simp; done) | omega | (simp; omega))
  have g1 : Below w.heap.size w w1 := by refine Below.trans ?_ (hb1.mono ?_) <;> (repeat' (first | (with_reducible (first | exact Below.refl _ _ | assumption | refine below_drewN ?_ _ | refine Below.drew ?_ | refine Below.alloc ?_ ?_ _ | refine Below.setCell ?_ ?_ _)) | go_size))
  have hz1 := hb1.size
  (try simp at hz1)
  clear hb1
  replace cC := C1.cell
  replace fC := C1.frozen
  replace zC := C1.size
  replace cR := R1.cell
  replace fR := R1.frozen
  replace zR := R1.size
  go_wp2
  refine bp_forget (fun v => Below w.heap.size w v ∧ Blk v (w.heap.size + 1) #[.int .u64 0, .int .u64 0] 26) ⟨by (repeat' (first | (with_reducible (first | exact Below.refl _ _ | assumption | refine below_drewN ?_ _ | refine Below.drew ?_ | refine Below.alloc ?_ ?_ _ | refine Below.setCell ?_ ?_ _)) | go_size)), by (repeat' (first | (with_reducible (first | assumption | exact Blk.alloc_new _ _ _ (by first | rfl | (simp; done) | omega) | apply Blk.drewN | apply Blk.drew | apply Blk.alloc_old | apply Blk.set_same | apply Blk.set_other)) | (show (_ : Nat) ≠ _; first | omega | (simp; done) | (simp; omega)) | ((simp only [List.setIfInBounds_toArray, List.set_cons_succ, List.set_cons_zero]); (with_reducible exact rfl)) | (with_reducible exact rfl) | (show (_ : Array Value) = _; exact rfl)))⟩ ?_
  rintro v ⟨gv, Bv⟩
  have cv := Bv.cell
  refine bodyPost_ret (v := .agg #[.int .u64 0, .int .u64 0]) (by simp [results, Try.results21, go_sem, cv]) rfl ⟨by rw [wv0], gv⟩
theorem service_any (m d n t s : Int) (w : World) (hm : 0 ≤ m) (hd : 0 ≤ d) (hn : 0 ≤ n) (ht : 0 ≤ t ∧ t ≤ 18446744073709551615) (hs : sk m d n t = s) :
    Calls Try.prog 21 #[.agg #[.int .u64 m, .int .u64 d, .int .u64 n], .int .u64 t] w fun e w' => e = .returned (wv s) ∧ Below w.heap.size w w' := by
  by_cases hk : kd m d n = 0
  · have : s = 0 := by rw [← hs]; unfold sk; rw [if_pos hk]
    subst this; exact service_bad m d n t w hm hd hn (by simp [hk])
  · have hk' : (kd m d n != 0) = true := bne_iff_ne.2 hk
    obtain ⟨m1, n1, d1⟩ := kd_in hk
    have hin := sk_in hm hd hn ht.1 ht.2; rw [hs] at hin
    unfold sk sv at hs; rw [if_neg hk] at hs
    by_cases h : t ≤ d
    · rw [if_pos h] at hs
      exact service_lo m d n t s 0 s w ⟨hm, m1⟩ ⟨hd, d1⟩ ⟨hn, n1⟩ ht hk' h hs (Int.mul_zero n) (Int.add_zero s) hin
    · rw [if_neg h] at hs
      exact service_hi m d n t _ _ s w ⟨hm, m1⟩ ⟨hd, d1⟩ ⟨hn, n1⟩ ht hk' (by omega) rfl rfl hs hin
theorem rservice_bad (m d n t : Int) (w : World) (hm : 0 ≤ m) (hd : 0 ≤ d) (hn : 0 ≤ n) (hk : kd m d n = 0) :
    Calls Try.prog 41 #[.agg #[.int .u64 m, .int .u64 d, .int .u64 n], .int .u64 t] w fun e w' => e = .returned (nv 0) ∧ Below w.heap.size w w' := by
  have Hk := hide hk; clear hk
  go_enter Try.func41, Try.ntmps41
  go_wp2_with fail
  refine (rOf_any m d n 0 _ hm hd hn Hk.out).mono ?_
  rintro e w1 ⟨rfl, hb1⟩
  have C1 : Blk w1 (w.heap.size) #[.int .u64 m, .int .u64 d, .int .u64 n] 24 := Blk.below (by (repeat' (first | (with_reducible (first | assumption | exact Blk.alloc_new _ _ _ (by first | rfl | (simp; done) | omega) | apply Blk.drewN | apply Blk.drew | apply Blk.alloc_old | apply Blk.set_same | apply Blk.set_other)) | (show (_ : Nat) ≠ _; first | omega | (simp; done) | (simp; omega)) | ((simp only [List.setIfInBounds_toArray, List.set_cons_succ, List.set_cons_zero]); (with_reducible exact rfl)) | (with_reducible exact rfl) | (show (_ : Array Value) = _; exact rfl)))) hb1 (by first | (simp; done) | omega | (simp; omega))
  have R1 : Blk w1 (w.heap.size + 1) #[.int .u64 0, .int .u64 0, .int .u64 0, .int .u64 0] 31 := Blk.below (by (repeat' (first | (with_reducible (first | assumption | exact Blk.alloc_new _ _ _ (by first | rfl | (simp; done) | omega) | apply Blk.drewN | apply Blk.drew | apply Blk.alloc_old | apply Blk.set_same | apply Blk.set_other)) | (show (_ : Nat) ≠ _; first | omega | (simp; done) | (simp; omega)) | ((simp only [List.setIfInBounds_toArray, List.set_cons_succ, List.set_cons_zero]); (with_reducible exact rfl)) | (with_reducible exact rfl) | (show (_ : Array Value) = _; exact rfl)))) hb1 (by first | (simp; done) | omega | (simp; omega))
  have g1 : Below w.heap.size w w1 := by refine Below.trans ?_ (hb1.mono ?_) <;> (repeat' (first | (with_reducible (first | exact Below.refl _ _ | assumption | refine below_drewN ?_ _ | refine Below.drew ?_ | refine Below.alloc ?_ ?_ _ | refine Below.setCell ?_ ?_ _)) | go_size))
  have hz1 := hb1.size
  (try simp at hz1)
  clear hb1
  replace cC := C1.cell
  replace fC := C1.frozen
  replace zC := C1.size
  replace cR := R1.cell
  replace fR := R1.frozen
  replace zR := R1.size
  go_wp2
  refine bp_forget (fun v => Below w.heap.size w v ∧ Blk v (w.heap.size + 1) #[.int .u64 0, .int .u64 0, .int .u64 0, .int .u64 0] 31) ⟨by (repeat' (first | (with_reducible (first | exact Below.refl _ _ | assumption | refine below_drewN ?_ _ | refine Below.drew ?_ | refine Below.alloc ?_ ?_ _ | refine Below.setCell ?_ ?_ _)) | go_size)), by (repeat' (first | (with_reducible (first | assumption | exact Blk.alloc_new _ _ _ (by first | rfl | (simp; done) | omega) | apply Blk.drewN | apply Blk.drew | apply Blk.alloc_old | apply Blk.set_same | apply Blk.set_other)) | (show (_ : Nat) ≠ _; first | omega | (simp; done) | (simp; omega)) | ((simp only [List.setIfInBounds_toArray, List.set_cons_succ, List.set_cons_zero]); (with_reducible exact rfl)) | (with_reducible exact rfl) | (show (_ : Array Value) = _; exact rfl)))⟩ ?_
  rintro v ⟨gv, Bv⟩
  have cv := Bv.cell
  refine bodyPost_ret (v := .agg #[.int .u64 0, .int .u64 0, .int .u64 0, .int .u64 0]) (by simp [results, Try.results41, go_sem, cv]) rfl ⟨by rw [nv0], gv⟩
set_option maxHeartbeats 4000000 in
theorem rservice_lo (m d n t s k : Int) (w : World) (hm : 0 ≤ m ∧ m ≤ 4294967295) (hd : 0 ≤ d ∧ d ≤ 1048576) (hn : 0 ≤ n ∧ n ≤ 4294967295) (ht : 0 ≤ t ∧ t ≤ 18446744073709551615) (hk : kd m d n = k) (hk0 : (k == 0) = false) (hh : t ≤ d) (hp : m * t = s) (s1 : In128 s) :
    Calls Try.prog 41 #[.agg #[.int .u64 m, .int .u64 d, .int .u64 n], .int .u64 t] w fun e w' => e = .returned (nv s) ∧ Below w.heap.size w w' := by
  have Hk := hide hk; clear hk
  have Hp := hide hp; clear hp
  have d1 : decide (t ≤ d) = true := by simp; omega
  go_enter Try.func41, Try.ntmps41
  go_wp2_with fail
  refine (rOf_any m d n k _ hm.1 hd.1 hn.1 Hk.out).mono ?_
  rintro e w1 ⟨rfl, hb1⟩
  have C1 : Blk w1 (w.heap.size) #[.int .u64 m, .int .u64 d, .int .u64 n] 24 := Blk.below (by (repeat' (first | (with_reducible (first | assumption | exact Blk.alloc_new _ _ _ (by first | rfl | (simp; done) | omega) | apply Blk.drewN | apply Blk.drew | apply Blk.alloc_old | apply Blk.set_same | apply Blk.set_other)) | (show (_ : Nat) ≠ _; first | omega | (simp; done) | (simp; omega)) | ((simp only [List.setIfInBounds_toArray, List.set_cons_succ, List.set_cons_zero]); (with_reducible exact rfl)) | (with_reducible exact rfl) | (show (_ : Array Value) = _; exact rfl)))) hb1 (by first | (simp; done) | omega | (simp; omega))
  have R1 : Blk w1 (w.heap.size + 1) #[.int .u64 0, .int .u64 0, .int .u64 0, .int .u64 0] 31 := Blk.below (by (repeat' (first | (with_reducible (first | assumption | exact Blk.alloc_new _ _ _ (by first | rfl | (simp; done) | omega) | apply Blk.drewN | apply Blk.drew | apply Blk.alloc_old | apply Blk.set_same | apply Blk.set_other)) | (show (_ : Nat) ≠ _; first | omega | (simp; done) | (simp; omega)) | ((simp only [List.setIfInBounds_toArray, List.set_cons_succ, List.set_cons_zero]); (with_reducible exact rfl)) | (with_reducible exact rfl) | (show (_ : Array Value) = _; exact rfl)))) hb1 (by first | (simp; done) | omega | (simp; omega))
  have g1 : Below w.heap.size w w1 := by refine Below.trans ?_ (hb1.mono ?_) <;> (repeat' (first | (with_reducible (first | exact Below.refl _ _ | assumption | refine below_drewN ?_ _ | refine Below.drew ?_ | refine Below.alloc ?_ ?_ _ | refine Below.setCell ?_ ?_ _)) | go_size))
  have hz1 := hb1.size
  (try simp at hz1)
  clear hb1
  replace cC := C1.cell
  replace fC := C1.frozen
  replace zC := C1.size
  replace cR := R1.cell
  replace fR := R1.frozen
  replace zR := R1.size
  go_wp2_with fail
  refine (rMulC m t s _ (by omega) (by omega) Hp.out).mono ?_
  rintro e w2 ⟨rfl, hb2⟩
  have C2 : Blk w2 (w.heap.size) #[.int .u64 m, .int .u64 d, .int .u64 n] 24 := Blk.below (by (repeat' (first | (with_reducible (first | assumption | exact Blk.alloc_new _ _ _ (by first | rfl | (simp; done) | omega) | apply Blk.drewN | apply Blk.drew | apply Blk.alloc_old | apply Blk.set_same | apply Blk.set_other)) | (show (_ : Nat) ≠ _; first | omega | (simp; done) | (simp; omega)) | ((simp only [List.setIfInBounds_toArray, List.set_cons_succ, List.set_cons_zero]); (with_reducible exact rfl)) | (with_reducible exact rfl) | (show (_ : Array Value) = _; exact rfl)))) hb2 (by first | (simp; done) | omega | (simp; omega))
  have R2 : Blk w2 (w.heap.size + 1) #[.int .u64 0, .int .u64 0, .int .u64 0, .int .u64 0] 31 := Blk.below (by (repeat' (first | (with_reducible (first | assumption | exact Blk.alloc_new _ _ _ (by first | rfl | (simp; done) | omega) | apply Blk.drewN | apply Blk.drew | apply Blk.alloc_old | apply Blk.set_same | apply Blk.set_other)) | (show (_ : Nat) ≠ _; first | omega | (simp; done) | (simp; omega)) | ((simp only [List.setIfInBounds_toArray, List.set_cons_succ, List.set_cons_zero]); (with_reducible exact rfl)) | (with_reducible exact rfl) | (show (_ : Array Value) = _; exact rfl)))) hb2 (by first | (simp; done) | omega | (simp; omega))
  have g2 : Below w.heap.size w w2 := by refine Below.trans ?_ (hb2.mono ?_) <;> (repeat' (first | (with_reducible (first | exact Below.refl _ _ | assumption | refine below_drewN ?_ _ | refine Below.drew ?_ | refine Below.alloc ?_ ?_ _ | refine Below.setCell ?_ ?_ _)) | go_size))
  have hz2 := hb2.size
  (try simp at hz2)
  clear hb2
  replace cC := C2.cell
  replace fC := C2.frozen
  replace zC := C2.size
  replace cR := R2.cell
  replace fR := R2.frozen
  replace zR := R2.size
  go_wp2
  refine bp_forget (fun v => Below w.heap.size w v ∧ Blk v (w.heap.size + 1) #[.int .u64 (dg0 (s)), .int .u64 (dg1 (s)), .int .u64 (dg2 (s)), .int .u64 (dg3 (s))] 31) ⟨by (repeat' (first | (with_reducible (first | exact Below.refl _ _ | assumption | refine below_drewN ?_ _ | refine Below.drew ?_ | refine Below.alloc ?_ ?_ _ | refine Below.setCell ?_ ?_ _)) | go_size)), by (repeat' (first | (with_reducible (first | assumption | exact Blk.alloc_new _ _ _ (by first | rfl | (simp; done) | omega) | apply Blk.drewN | apply Blk.drew | apply Blk.alloc_old | apply Blk.set_same | apply Blk.set_other)) | (show (_ : Nat) ≠ _; first | omega | (simp; done) | (simp; omega)) | ((simp only [List.setIfInBounds_toArray, List.set_cons_succ, List.set_cons_zero]); (with_reducible exact rfl)) | (with_reducible exact rfl) | (show (_ : Array Value) = _; exact rfl)))⟩ ?_
  rintro v ⟨gv, Bv⟩
  have cv := Bv.cell
  refine bodyPost_ret (v := nv s) (by simp [results, Try.results41, go_sem, cv]) rfl ⟨rfl, gv⟩

set_option maxHeartbeats 4000000 in
theorem rservice_hi (m d n t p q s k : Int) (w : World) (hm : 0 ≤ m ∧ m ≤ 4294967295) (hd : 0 ≤ d ∧ d ≤ 1048576) (hn : 0 ≤ n ∧ n ≤ 4294967295) (ht : 0 ≤ t ∧ t ≤ 18446744073709551615) (hk : kd m d n = k) (hk0 : (k == 0) = false) (hh : d < t) (hp : m * d = p) (hq : n * (t - d) = q) (hs : p + q = s) (s1 : In128 s) :
    Calls Try.prog 41 #[.agg #[.int .u64 m, .int .u64 d, .int .u64 n], .int .u64 t] w fun e w' => e = .returned (nv s) ∧ Below w.heap.size w w' := by
  have Hk := hide hk; clear hk
  have Hp := hide hp; clear hp
  have p1 : In128 p := mul128 (by omega) (by omega) Hp.out
  have q1 : In128 q := mul128 (by omega) (by omega) hq
  have Hw := hide (show IntKind.u64.wrap (t - d) = t - d from IntWalk.u64_in _ ⟨by omega, by omega⟩)
  have Hq := hide hq; have Hs := hide hs; clear hq hs
  have d1 : decide (t ≤ d) = false := by simp; omega
  go_enter Try.func41, Try.ntmps41
  go_wp2_with fail
  refine (rOf_any m d n k _ hm.1 hd.1 hn.1 Hk.out).mono ?_
  rintro e w1 ⟨rfl, hb1⟩
  have C1 : Blk w1 (w.heap.size) #[.int .u64 m, .int .u64 d, .int .u64 n] 24 := Blk.below (by (repeat' (first | (with_reducible (first | assumption | exact Blk.alloc_new _ _ _ (by first | rfl | (simp; done) | omega) | apply Blk.drewN | apply Blk.drew | apply Blk.alloc_old | apply Blk.set_same | apply Blk.set_other)) | (show (_ : Nat) ≠ _; first | omega | (simp; done) | (simp; omega)) | ((simp only [List.setIfInBounds_toArray, List.set_cons_succ, List.set_cons_zero]); (with_reducible exact rfl)) | (with_reducible exact rfl) | (show (_ : Array Value) = _; exact rfl)))) hb1 (by first | (simp; done) | omega | (simp; omega))
  have R1 : Blk w1 (w.heap.size + 1) #[.int .u64 0, .int .u64 0, .int .u64 0, .int .u64 0] 31 := Blk.below (by (repeat' (first | (with_reducible (first | assumption | exact Blk.alloc_new _ _ _ (by first | rfl | (simp; done) | omega) | apply Blk.drewN | apply Blk.drew | apply Blk.alloc_old | apply Blk.set_same | apply Blk.set_other)) | (show (_ : Nat) ≠ _; first | omega | (simp; done) | (simp; omega)) | ((simp only [List.setIfInBounds_toArray, List.set_cons_succ, List.set_cons_zero]); (with_reducible exact rfl)) | (with_reducible exact rfl) | (show (_ : Array Value) = _; exact rfl)))) hb1 (by first | (simp; done) | omega | (simp; omega))
  have g1 : Below w.heap.size w w1 := by refine Below.trans ?_ (hb1.mono ?_) <;> (repeat' (first | (with_reducible (first | exact Below.refl _ _ | assumption | refine below_drewN ?_ _ | refine Below.drew ?_ | refine Below.alloc ?_ ?_ _ | refine Below.setCell ?_ ?_ _)) | go_size))
  have hz1 := hb1.size
  (try simp at hz1)
  clear hb1
  replace cC := C1.cell
  replace fC := C1.frozen
  replace zC := C1.size
  replace cR := R1.cell
  replace fR := R1.frozen
  replace zR := R1.size
  go_wp2_with fail
  go_region_held3 (fun v => (∀ i, v.cell? ⟨w.heap.size, i, none⟩ = #[.int .u64 m, .int .u64 d, .int .u64 n][i]?) ∧ w.heap.size < v.heap.size ∧ Blk v (w.heap.size) #[.int .u64 m, .int .u64 d, .int .u64 n] 24 ∧ Below w.heap.size w v)
    (first
      | (refine ⟨?_, ?_, ?_, ?_⟩ <;> first | (with_reducible assumption) | ((repeat' (first | (with_reducible (first | assumption | exact Blk.alloc_new _ _ _ (by first | rfl | (simp; done) | omega) | apply Blk.drewN | apply Blk.drew | apply Blk.alloc_old | apply Blk.set_same | apply Blk.set_other)) | (show (_ : Nat) ≠ _; first | omega | (simp; done) | (simp; omega)) | ((simp only [List.setIfInBounds_toArray, List.set_cons_succ, List.set_cons_zero]); (with_reducible exact rfl)) | (with_reducible exact rfl) | (show (_ : Array Value) = _; exact rfl))); done) | ((repeat' (first | (with_reducible (first | exact Below.refl _ _ | assumption | refine below_drewN ?_ _ | refine Below.drew ?_ | refine Below.alloc ?_ ?_ _ | refine Below.setCell ?_ ?_ _)) | go_size)); done) | omega | (go_simp; done) | (simp; done) | (exact Blk.cell (by (repeat' (first | (with_reducible (first | assumption | exact Blk.alloc_new _ _ _ (by first | rfl | (simp; done) | omega) | apply Blk.drewN | apply Blk.drew | apply Blk.alloc_old | apply Blk.set_same | apply Blk.set_other)) | (show (_ : Nat) ≠ _; first | omega | (simp; done) | (simp; omega)) | ((simp only [List.setIfInBounds_toArray, List.set_cons_succ, List.set_cons_zero]); (with_reducible exact rfl)) | (with_reducible exact rfl) | (show (_ : Array Value) = _; exact rfl)))))))
    (first
      | (go_at_call 47; (with_reducible refine (rMulC m d p _ (by omega) (by omega) Hp.out).mono ?_); rintro e w' ⟨rfl, hb'⟩; have hbx : Below w.heap.size w w' := (by refine Below.trans ?_ (Below.mono hb' ?_) <;> (repeat' (first | (with_reducible (first | exact Below.refl _ _ | assumption | refine below_drewN ?_ _ | refine Below.drew ?_ | refine Below.alloc ?_ ?_ _ | refine Below.setCell ?_ ?_ _)) | go_size))); have hbs := hb'.size; (try simp at hbs); have hkC : Blk w' (w.heap.size) #[.int .u64 m, .int .u64 d, .int .u64 n] 24 := Blk.below (by (repeat' (first | (with_reducible (first | assumption | exact Blk.alloc_new _ _ _ (by first | rfl | (simp; done) | omega) | apply Blk.drewN | apply Blk.drew | apply Blk.alloc_old | apply Blk.set_same | apply Blk.set_other)) | (show (_ : Nat) ≠ _; first | omega | (simp; done) | (simp; omega)) | ((simp only [List.setIfInBounds_toArray, List.set_cons_succ, List.set_cons_zero]); (with_reducible exact rfl)) | (with_reducible exact rfl) | (show (_ : Array Value) = _; exact rfl)))) hb' (by first | (simp; done) | omega | (simp; omega)); have hqC := hkC.cell; have hzC := hkC.size; have hkR : Blk w' (w.heap.size + 1) #[.int .u64 0, .int .u64 0, .int .u64 0, .int .u64 0] 31 := Blk.below (by (repeat' (first | (with_reducible (first | assumption | exact Blk.alloc_new _ _ _ (by first | rfl | (simp; done) | omega) | apply Blk.drewN | apply Blk.drew | apply Blk.alloc_old | apply Blk.set_same | apply Blk.set_other)) | (show (_ : Nat) ≠ _; first | omega | (simp; done) | (simp; omega)) | ((simp only [List.setIfInBounds_toArray, List.set_cons_succ, List.set_cons_zero]); (with_reducible exact rfl)) | (with_reducible exact rfl) | (show (_ : Array Value) = _; exact rfl)))) hb' (by first | (simp; done) | omega | (simp; omega)); have cR := hkR.cell; have fR := hkR.frozen; have zR := hkR.size; clear hb')
      | (go_at_call 47; (with_reducible refine (rMulW n _ (t - d) q _ (by omega) (by omega) (by first | exact Hw.out | rfl) Hq.out).mono ?_); rintro e w' ⟨rfl, hb'⟩; have hbx : Below w.heap.size w w' := (by refine Below.trans ?_ (Below.mono hb' ?_) <;> (repeat' (first | (with_reducible (first | exact Below.refl _ _ | assumption | refine below_drewN ?_ _ | refine Below.drew ?_ | refine Below.alloc ?_ ?_ _ | refine Below.setCell ?_ ?_ _)) | go_size))); have hbs := hb'.size; (try simp at hbs); have hkC : Blk w' (w.heap.size) #[.int .u64 m, .int .u64 d, .int .u64 n] 24 := Blk.below (by (repeat' (first | (with_reducible (first | assumption | exact Blk.alloc_new _ _ _ (by first | rfl | (simp; done) | omega) | apply Blk.drewN | apply Blk.drew | apply Blk.alloc_old | apply Blk.set_same | apply Blk.set_other)) | (show (_ : Nat) ≠ _; first | omega | (simp; done) | (simp; omega)) | ((simp only [List.setIfInBounds_toArray, List.set_cons_succ, List.set_cons_zero]); (with_reducible exact rfl)) | (with_reducible exact rfl) | (show (_ : Array Value) = _; exact rfl)))) hb' (by first | (simp; done) | omega | (simp; omega)); have hqC := hkC.cell; have hzC := hkC.size; have hkR : Blk w' (w.heap.size + 1) #[.int .u64 0, .int .u64 0, .int .u64 0, .int .u64 0] 31 := Blk.below (by (repeat' (first | (with_reducible (first | assumption | exact Blk.alloc_new _ _ _ (by first | rfl | (simp; done) | omega) | apply Blk.drewN | apply Blk.drew | apply Blk.alloc_old | apply Blk.set_same | apply Blk.set_other)) | (show (_ : Nat) ≠ _; first | omega | (simp; done) | (simp; omega)) | ((simp only [List.setIfInBounds_toArray, List.set_cons_succ, List.set_cons_zero]); (with_reducible exact rfl)) | (with_reducible exact rfl) | (show (_ : Array Value) = _; exact rfl)))) hb' (by first | (simp; done) | omega | (simp; omega)); have cR := hkR.cell; have fR := hkR.frozen; have zR := hkR.size; clear hb')
      | (go_at_call 40; (with_reducible refine (rPlusC p q s _ p1 q1 Hs.out s1).mono ?_); rintro e w' ⟨rfl, hb'⟩; have hbx : Below w.heap.size w w' := (by refine Below.trans ?_ (Below.mono hb' ?_) <;> (repeat' (first | (with_reducible (first | exact Below.refl _ _ | assumption | refine below_drewN ?_ _ | refine Below.drew ?_ | refine Below.alloc ?_ ?_ _ | refine Below.setCell ?_ ?_ _)) | go_size))); have hbs := hb'.size; (try simp at hbs); have hkC : Blk w' (w.heap.size) #[.int .u64 m, .int .u64 d, .int .u64 n] 24 := Blk.below (by (repeat' (first | (with_reducible (first | assumption | exact Blk.alloc_new _ _ _ (by first | rfl | (simp; done) | omega) | apply Blk.drewN | apply Blk.drew | apply Blk.alloc_old | apply Blk.set_same | apply Blk.set_other)) | (show (_ : Nat) ≠ _; first | omega | (simp; done) | (simp; omega)) | ((simp only [List.setIfInBounds_toArray, List.set_cons_succ, List.set_cons_zero]); (with_reducible exact rfl)) | (with_reducible exact rfl) | (show (_ : Array Value) = _; exact rfl)))) hb' (by first | (simp; done) | omega | (simp; omega)); have hqC := hkC.cell; have hzC := hkC.size; have hkR : Blk w' (w.heap.size + 1) #[.int .u64 0, .int .u64 0, .int .u64 0, .int .u64 0] 31 := Blk.below (by (repeat' (first | (with_reducible (first | assumption | exact Blk.alloc_new _ _ _ (by first | rfl | (simp; done) | omega) | apply Blk.drewN | apply Blk.drew | apply Blk.alloc_old | apply Blk.set_same | apply Blk.set_other)) | (show (_ : Nat) ≠ _; first | omega | (simp; done) | (simp; omega)) | ((simp only [List.setIfInBounds_toArray, List.set_cons_succ, List.set_cons_zero]); (with_reducible exact rfl)) | (with_reducible exact rfl) | (show (_ : Array Value) = _; exact rfl)))) hb' (by first | (simp; done) | omega | (simp; omega)); have cR := hkR.cell; have fR := hkR.frozen; have zR := hkR.size; clear hb'))
  all_goals
    go_wp2
    refine bp_forget (fun v => Below w.heap.size w v ∧ Blk v (w.heap.size + 1) #[.int .u64 (dg0 (s)), .int .u64 (dg1 (s)), .int .u64 (dg2 (s)), .int .u64 (dg3 (s))] 31) ⟨by (repeat' (first | (with_reducible (first | exact Below.refl _ _ | assumption | refine below_drewN ?_ _ | refine Below.drew ?_ | refine Below.alloc ?_ ?_ _ | refine Below.setCell ?_ ?_ _)) | go_size)), by (repeat' (first | (with_reducible (first | assumption | exact Blk.alloc_new _ _ _ (by first | rfl | (simp; done) | omega) | apply Blk.drewN | apply Blk.drew | apply Blk.alloc_old | apply Blk.set_same | apply Blk.set_other)) | (show (_ : Nat) ≠ _; first | omega | (simp; done) | (simp; omega)) | ((simp only [List.setIfInBounds_toArray, List.set_cons_succ, List.set_cons_zero]); (with_reducible exact rfl)) | (with_reducible exact rfl) | (show (_ : Array Value) = _; exact rfl)))⟩ ?_
    rintro v ⟨gv, Bv⟩
    have cv := Bv.cell
    refine bodyPost_ret (v := nv s) (by simp [results, Try.results41, go_sem, cv]) rfl ⟨rfl, gv⟩

theorem rservice_any (m d n t s : Int) (w : World) (hm : 0 ≤ m) (hd : 0 ≤ d) (hn : 0 ≤ n) (ht : 0 ≤ t ∧ t ≤ 18446744073709551615) (hs : sk m d n t = s) :
    Calls Try.prog 41 #[.agg #[.int .u64 m, .int .u64 d, .int .u64 n], .int .u64 t] w fun e w' => e = .returned (nv s) ∧ Below w.heap.size w w' := by
  by_cases hk : kd m d n = 0
  · have : s = 0 := by rw [← hs]; unfold sk; rw [if_pos hk]
    subst this; exact rservice_bad m d n t w hm hd hn hk
  · have hk' : (kd m d n == 0) = false := beq_eq_false_iff_ne.2 hk
    obtain ⟨m1, n1, d1⟩ := kd_in hk
    have hin := sk_in hm hd hn ht.1 ht.2; rw [hs] at hin
    unfold sk sv at hs; rw [if_neg hk] at hs
    by_cases h : t ≤ d
    · rw [if_pos h] at hs
      exact rservice_lo m d n t s _ w ⟨hm, m1⟩ ⟨hd, d1⟩ ⟨hn, n1⟩ ht rfl hk' h hs hin
    · rw [if_neg h] at hs
      exact rservice_hi m d n t _ _ s _ w ⟨hm, m1⟩ ⟨hd, d1⟩ ⟨hn, n1⟩ ht rfl hk' (by omega) rfl rfl hs hin
end Go.Proofs.Ytaaoadbcgnedkaa
