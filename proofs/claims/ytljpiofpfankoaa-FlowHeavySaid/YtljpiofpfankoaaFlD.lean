/-
  The reference's Key: contracts in plain numbers. Conditions: numbers in range.
-/
import Derived.Test.YtljpiofpfankoaaFlB
namespace Go.Proofs.Ytljpiofpfankoaa
open Go.RowKit Go.Sort
set_option linter.unusedVariables false
set_option linter.unusedSimpArgs false
set_option maxRecDepth 100000 in
set_option maxHeartbeats 4000000 in
theorem rkey_a (l b : List Int) (h : HD) (k0 x1 x2 k3 : Int) (w : World) (ok : h.ok) (hbl : b.length ≤ 4611686018427387904) (hk0 : h.pr * 256 + h.tos / 4 = k0) (hx1 : xN (h.src / 65536) (h.src % 65536) = x1) (hx2 : xN (h.dst / 65536) (h.dst % 65536) = x2) (hk3 : xN x1 x2 = k3) (h1 : h.pr ≠ 6) (h2 : h.pr ≠ 17)
    (KH : Hid (∀ v, Calls Try.prog 51 #[SV l] v fun e w' => e = .returned (.agg #[.int .u8 h.tos, .int .u16 h.id, .int .u8 h.fl, .int .u16 h.off, .int .u8 h.ttl, .int .u8 h.pr, .int .u32 h.src, .int .u32 h.dst, SV h.o]) ∧ Below v.heap.size v w'))
    (KY : Hid (∀ v, Calls Try.prog 52 #[SV l] v fun e w' => e = .returned (SV b) ∧ Below v.heap.size v w')) :
    Calls Try.prog 30 #[SV l] w fun e w' => e = .returned (.agg #[.int .u16 k0, .int .u16 0, .int .u16 0, .int .u16 k3]) ∧ Below w.heap.size w w' := by
  have ks := sv_size
  obtain ⟨o1, o2, o3, o4, o5, o6, o7, o8, o9⟩ := ok
  have hk0r : 0 ≤ k0 ∧ k0 ≤ 65535 := by omega
  have hr1 : 0 ≤ x1 ∧ x1 ≤ 65535 := by rw [← hx1]; exact xN_16 (by omega) (by omega)
  have hr2 : 0 ≤ x2 ∧ x2 ≤ 65535 := by rw [← hx2]; exact xN_16 (by omega) (by omega)
  have hr3 : 0 ≤ k3 ∧ k3 ≤ 65535 := by rw [← hk3]; exact xN_16 hr1 hr2
  have ht0 : h.tos.tdiv 4 = h.tos / 4 := Int.tdiv_eq_ediv_of_nonneg o1.1
  have ht1 : h.src.tdiv 65536 = h.src / 65536 := Int.tdiv_eq_ediv_of_nonneg o7.1
  have ht2 : h.src.tmod 65536 = h.src % 65536 := Int.tmod_eq_emod_of_nonneg o7.1
  have ht3 : h.dst.tdiv 65536 = h.dst / 65536 := Int.tdiv_eq_ediv_of_nonneg o8.1
  have ht4 : h.dst.tmod 65536 = h.dst % 65536 := Int.tmod_eq_emod_of_nonneg o8.1
  have hwk : IntKind.u16.wrap k0 = k0 := by simp [IntKind.wrap, IntKind.bits, IntKind.signed]; omega
  have hw3 : IntKind.u16.wrap k3 = k3 := by simp [IntKind.wrap, IntKind.bits, IntKind.signed]; omega
  have HX1 := hide hx1; have HX2 := hide hx2; have HK3 := hide hk3
  clear hx1 hx2 hk3
  have d6 : (h.pr == 6) = false := by simp; omega
  have d17 : (h.pr == 17) = false := by simp; omega
  go_enter Try.func30, Try.ntmps30
  go_wp2_with fail
  refine (KH.out _).mono ?_
  rintro e w1 ⟨rfl, hb1⟩
  have R1 : Blk w1 (w.heap.size) #[.int .u16 0, .int .u16 0, .int .u16 0, .int .u16 0] 48 := Blk.below (by (repeat' (first | (with_reducible (first | assumption | exact Blk.alloc_new _ _ _ (by first | rfl | (simp; done) | omega) | apply Blk.drewN | apply Blk.drew | apply Blk.alloc_old | apply Blk.set_same | apply Blk.set_other)) | (show (_ : Nat) ≠ _; first | omega | (simp; done) | (simp; omega)) | ((simp only [List.setIfInBounds_toArray, List.set_cons_succ, List.set_cons_zero]); (with_reducible exact rfl)) | (with_reducible exact rfl) | (show (_ : Array Value) = _; exact rfl)))) hb1 (by first | (simp; done) | omega | (simp; omega))
  have g1 : Below w.heap.size w w1 := by refine Below.trans ?_ (hb1.mono ?_) <;> (repeat' (first | (with_reducible (first | exact Below.refl _ _ | assumption | refine below_drewN ?_ _ | refine Below.drew ?_ | refine Below.alloc ?_ ?_ _ | refine Below.setCell ?_ ?_ _)) | go_size))
  have hz1 := hb1.size
  (try simp at hz1)
  clear hb1
  replace cR := R1.cell
  replace fR := R1.frozen
  replace zR := R1.size
  go_wp2_with fail
  refine (KY.out _).mono ?_
  rintro e w2 ⟨rfl, hb2⟩
  have R2 : Blk w2 (w.heap.size) #[.int .u16 0, .int .u16 0, .int .u16 0, .int .u16 0] 48 := Blk.below (by (repeat' (first | (with_reducible (first | assumption | exact Blk.alloc_new _ _ _ (by first | rfl | (simp; done) | omega) | apply Blk.drewN | apply Blk.drew | apply Blk.alloc_old | apply Blk.set_same | apply Blk.set_other)) | (show (_ : Nat) ≠ _; first | omega | (simp; done) | (simp; omega)) | ((simp only [List.setIfInBounds_toArray, List.set_cons_succ, List.set_cons_zero]); (with_reducible exact rfl)) | (with_reducible exact rfl) | (show (_ : Array Value) = _; exact rfl)))) hb2 (by first | (simp; done) | omega | (simp; omega))
  have A2 : Blk w2 (w1.heap.size) #[.int .u8 h.tos, .int .u16 h.id, .int .u8 h.fl, .int .u16 h.off, .int .u8 h.ttl, .int .u8 h.pr, .int .u32 h.src, .int .u32 h.dst, SV h.o] 121 := Blk.below (by (repeat' (first | (with_reducible (first | assumption | exact Blk.alloc_new _ _ _ (by first | rfl | (simp; done) | omega) | apply Blk.drewN | apply Blk.drew | apply Blk.alloc_old | apply Blk.set_same | apply Blk.set_other)) | (show (_ : Nat) ≠ _; first | omega | (simp; done) | (simp; omega)) | ((simp only [List.setIfInBounds_toArray, List.set_cons_succ, List.set_cons_zero]); (with_reducible exact rfl)) | (with_reducible exact rfl) | (show (_ : Array Value) = _; exact rfl)))) hb2 (by first | (simp; done) | omega | (simp; omega))
  have g2 : Below w.heap.size w w2 := by refine Below.trans ?_ (hb2.mono ?_) <;> (repeat' (first | (with_reducible (first | exact Below.refl _ _ | assumption | refine below_drewN ?_ _ | refine Below.drew ?_ | refine Below.alloc ?_ ?_ _ | refine Below.setCell ?_ ?_ _)) | go_size))
  have hz2 := hb2.size
  (try simp at hz2)
  clear hb2
  replace cR := R2.cell
  replace fR := R2.frozen
  replace zR := R2.size
  replace cA := A2.cell
  replace fA := A2.frozen
  replace zA := A2.size
  skip
  go_wp2_with fail
  refine (rxor (h.src / 65536) (h.src % 65536) x1 _ (by omega) (by omega) HX1.out).mono ?_
  rintro e w5 ⟨rfl, hb5⟩
  have R5 : Blk w5 (w.heap.size) #[.int .u16 0, .int .u16 0, .int .u16 0, .int .u16 0] 48 := Blk.below (by (repeat' (first | (with_reducible (first | assumption | exact Blk.alloc_new _ _ _ (by first | rfl | (simp; done) | omega) | apply Blk.drewN | apply Blk.drew | apply Blk.alloc_old | apply Blk.set_same | apply Blk.set_other)) | (show (_ : Nat) ≠ _; first | omega | (simp; done) | (simp; omega)) | ((simp only [List.setIfInBounds_toArray, List.set_cons_succ, List.set_cons_zero]); (with_reducible exact rfl)) | (with_reducible exact rfl) | (show (_ : Array Value) = _; exact rfl)))) hb5 (by first | (simp; done) | omega | (simp; omega))
  have A5 : Blk w5 (w1.heap.size) #[.int .u8 h.tos, .int .u16 h.id, .int .u8 h.fl, .int .u16 h.off, .int .u8 h.ttl, .int .u8 h.pr, .int .u32 h.src, .int .u32 h.dst, SV h.o] 121 := Blk.below (by (repeat' (first | (with_reducible (first | assumption | exact Blk.alloc_new _ _ _ (by first | rfl | (simp; done) | omega) | apply Blk.drewN | apply Blk.drew | apply Blk.alloc_old | apply Blk.set_same | apply Blk.set_other)) | (show (_ : Nat) ≠ _; first | omega | (simp; done) | (simp; omega)) | ((simp only [List.setIfInBounds_toArray, List.set_cons_succ, List.set_cons_zero]); (with_reducible exact rfl)) | (with_reducible exact rfl) | (show (_ : Array Value) = _; exact rfl)))) hb5 (by first | (simp; done) | omega | (simp; omega))
  have X5 : Blk w5 (w2.heap.size) #[.int .u16 k0, .int .u16 0, .int .u16 0, .int .u16 0] 48 := Blk.below (by (repeat' (first | (with_reducible (first | assumption | exact Blk.alloc_new _ _ _ (by first | rfl | (simp; done) | omega) | apply Blk.drewN | apply Blk.drew | apply Blk.alloc_old | apply Blk.set_same | apply Blk.set_other)) | (show (_ : Nat) ≠ _; first | omega | (simp; done) | (simp; omega)) | ((simp only [List.setIfInBounds_toArray, List.set_cons_succ, List.set_cons_zero]); (with_reducible exact rfl)) | (with_reducible exact rfl) | (show (_ : Array Value) = _; exact rfl)))) hb5 (by first | (simp; done) | omega | (simp; omega))
  have g5 : Below w.heap.size w w5 := by refine Below.trans ?_ (hb5.mono ?_) <;> (repeat' (first | (with_reducible (first | exact Below.refl _ _ | assumption | refine below_drewN ?_ _ | refine Below.drew ?_ | refine Below.alloc ?_ ?_ _ | refine Below.setCell ?_ ?_ _)) | go_size))
  have hz5 := hb5.size
  (try simp at hz5)
  clear hb5
  replace cR := R5.cell
  replace fR := R5.frozen
  replace zR := R5.size
  replace cA := A5.cell
  replace fA := A5.frozen
  replace zA := A5.size
  replace cX := X5.cell
  replace fX := X5.frozen
  replace zX := X5.size
  go_wp2_with fail
  refine (rxor (h.dst / 65536) (h.dst % 65536) x2 _ (by omega) (by omega) HX2.out).mono ?_
  rintro e w6 ⟨rfl, hb6⟩
  have R6 : Blk w6 (w.heap.size) #[.int .u16 0, .int .u16 0, .int .u16 0, .int .u16 0] 48 := Blk.below (by (repeat' (first | (with_reducible (first | assumption | exact Blk.alloc_new _ _ _ (by first | rfl | (simp; done) | omega) | apply Blk.drewN | apply Blk.drew | apply Blk.alloc_old | apply Blk.set_same | apply Blk.set_other)) | (show (_ : Nat) ≠ _; first | omega | (simp; done) | (simp; omega)) | ((simp only [List.setIfInBounds_toArray, List.set_cons_succ, List.set_cons_zero]); (with_reducible exact rfl)) | (with_reducible exact rfl) | (show (_ : Array Value) = _; exact rfl)))) hb6 (by first | (simp; done) | omega | (simp; omega))
  have A6 : Blk w6 (w1.heap.size) #[.int .u8 h.tos, .int .u16 h.id, .int .u8 h.fl, .int .u16 h.off, .int .u8 h.ttl, .int .u8 h.pr, .int .u32 h.src, .int .u32 h.dst, SV h.o] 121 := Blk.below (by (repeat' (first | (with_reducible (first | assumption | exact Blk.alloc_new _ _ _ (by first | rfl | (simp; done) | omega) | apply Blk.drewN | apply Blk.drew | apply Blk.alloc_old | apply Blk.set_same | apply Blk.set_other)) | (show (_ : Nat) ≠ _; first | omega | (simp; done) | (simp; omega)) | ((simp only [List.setIfInBounds_toArray, List.set_cons_succ, List.set_cons_zero]); (with_reducible exact rfl)) | (with_reducible exact rfl) | (show (_ : Array Value) = _; exact rfl)))) hb6 (by first | (simp; done) | omega | (simp; omega))
  have X6 : Blk w6 (w2.heap.size) #[.int .u16 k0, .int .u16 0, .int .u16 0, .int .u16 0] 48 := Blk.below (by (repeat' (first | (with_reducible (first | assumption | exact Blk.alloc_new _ _ _ (by first | rfl | (simp; done) | omega) | apply Blk.drewN | apply Blk.drew | apply Blk.alloc_old | apply Blk.set_same | apply Blk.set_other)) | (show (_ : Nat) ≠ _; first | omega | (simp; done) | (simp; omega)) | ((simp only [List.setIfInBounds_toArray, List.set_cons_succ, List.set_cons_zero]); (with_reducible exact rfl)) | (with_reducible exact rfl) | (show (_ : Array Value) = _; exact rfl)))) hb6 (by first | (simp; done) | omega | (simp; omega))
  have g6 : Below w.heap.size w w6 := by refine Below.trans ?_ (hb6.mono ?_) <;> (repeat' (first | (with_reducible (first | exact Below.refl _ _ | assumption | refine below_drewN ?_ _ | refine Below.drew ?_ | refine Below.alloc ?_ ?_ _ | refine Below.setCell ?_ ?_ _)) | go_size))
  have hz6 := hb6.size
  (try simp at hz6)
  clear hb6
  replace cR := R6.cell
  replace fR := R6.frozen
  replace zR := R6.size
  replace cA := A6.cell
  replace fA := A6.frozen
  replace zA := A6.size
  replace cX := X6.cell
  replace fX := X6.frozen
  replace zX := X6.size
  go_wp2_with fail
  refine (rxor x1 x2 k3 _ hr1 hr2 HK3.out).mono ?_
  rintro e w7 ⟨rfl, hb7⟩
  have R7 : Blk w7 (w.heap.size) #[.int .u16 0, .int .u16 0, .int .u16 0, .int .u16 0] 48 := Blk.below (by (repeat' (first | (with_reducible (first | assumption | exact Blk.alloc_new _ _ _ (by first | rfl | (simp; done) | omega) | apply Blk.drewN | apply Blk.drew | apply Blk.alloc_old | apply Blk.set_same | apply Blk.set_other)) | (show (_ : Nat) ≠ _; first | omega | (simp; done) | (simp; omega)) | ((simp only [List.setIfInBounds_toArray, List.set_cons_succ, List.set_cons_zero]); (with_reducible exact rfl)) | (with_reducible exact rfl) | (show (_ : Array Value) = _; exact rfl)))) hb7 (by first | (simp; done) | omega | (simp; omega))
  have A7 : Blk w7 (w1.heap.size) #[.int .u8 h.tos, .int .u16 h.id, .int .u8 h.fl, .int .u16 h.off, .int .u8 h.ttl, .int .u8 h.pr, .int .u32 h.src, .int .u32 h.dst, SV h.o] 121 := Blk.below (by (repeat' (first | (with_reducible (first | assumption | exact Blk.alloc_new _ _ _ (by first | rfl | (simp; done) | omega) | apply Blk.drewN | apply Blk.drew | apply Blk.alloc_old | apply Blk.set_same | apply Blk.set_other)) | (show (_ : Nat) ≠ _; first | omega | (simp; done) | (simp; omega)) | ((simp only [List.setIfInBounds_toArray, List.set_cons_succ, List.set_cons_zero]); (with_reducible exact rfl)) | (with_reducible exact rfl) | (show (_ : Array Value) = _; exact rfl)))) hb7 (by first | (simp; done) | omega | (simp; omega))
  have X7 : Blk w7 (w2.heap.size) #[.int .u16 k0, .int .u16 0, .int .u16 0, .int .u16 0] 48 := Blk.below (by (repeat' (first | (with_reducible (first | assumption | exact Blk.alloc_new _ _ _ (by first | rfl | (simp; done) | omega) | apply Blk.drewN | apply Blk.drew | apply Blk.alloc_old | apply Blk.set_same | apply Blk.set_other)) | (show (_ : Nat) ≠ _; first | omega | (simp; done) | (simp; omega)) | ((simp only [List.setIfInBounds_toArray, List.set_cons_succ, List.set_cons_zero]); (with_reducible exact rfl)) | (with_reducible exact rfl) | (show (_ : Array Value) = _; exact rfl)))) hb7 (by first | (simp; done) | omega | (simp; omega))
  have g7 : Below w.heap.size w w7 := by refine Below.trans ?_ (hb7.mono ?_) <;> (repeat' (first | (with_reducible (first | exact Below.refl _ _ | assumption | refine below_drewN ?_ _ | refine Below.drew ?_ | refine Below.alloc ?_ ?_ _ | refine Below.setCell ?_ ?_ _)) | go_size))
  have hz7 := hb7.size
  (try simp at hz7)
  clear hb7
  replace cR := R7.cell
  replace fR := R7.frozen
  replace zR := R7.size
  replace cA := A7.cell
  replace fA := A7.frozen
  replace zA := A7.size
  replace cX := X7.cell
  replace fX := X7.frozen
  replace zX := X7.size
  go_wp2_with (first | (refine store_blk 48 (.tmp 2) (.tmp 84) (w.heap.size) #[.int .u16 0, .int .u16 0, .int .u16 0, .int .u16 0] #[.int .u16 k0, .int .u16 0, .int .u16 0, .int .u16 k3] 48 (by rfl) (by rfl) (by rfl) (by rfl) (by (repeat' (first | (with_reducible (first | assumption | exact Blk.alloc_new _ _ _ (by first | rfl | (simp; done) | omega) | apply Blk.drewN | apply Blk.drew | apply Blk.alloc_old | apply Blk.set_same | apply Blk.set_other)) | (show (_ : Nat) ≠ _; first | omega | (simp; done) | (simp; omega)) | ((simp only [List.setIfInBounds_toArray, List.set_cons_succ, List.set_cons_zero]); (with_reducible exact rfl)) | (with_reducible exact rfl) | (show (_ : Array Value) = _; exact rfl)))) rfl (by kernel_rfl) (by simp [Value.oneCell']) ?_; intro v Bv kB kO hs; have gv : Below w.heap.size w v := kB _ _ (by first | (simp; done) | omega | (simp; omega)) (by (repeat' (first | (with_reducible (first | exact Below.refl _ _ | assumption | refine below_drewN ?_ _ | refine Below.drew ?_ | refine Below.alloc ?_ ?_ _ | refine Below.setCell ?_ ?_ _)) | go_size))); clear kB kO hs))
  refine bodyPost_ret (v := .agg #[.int .u16 k0, .int .u16 0, .int .u16 0, .int .u16 k3]) ?_ ?_ ?_
  · exact results_blk (w.heap.size) #[.int .u16 k0, .int .u16 0, .int .u16 0, .int .u16 k3] 48 _ _ _ Try.results30 (by rfl) Bv Try.underlying48 rfl (by kernel_rfl)
  · rfl
  · exact ⟨rfl, gv⟩
set_option maxRecDepth 100000 in
set_option maxHeartbeats 4000000 in
theorem rkey_b6 (l b : List Int) (h : HD) (k0 x1 x2 k3 : Int) (w : World) (ok : h.ok) (hbl : b.length ≤ 4611686018427387904) (hk0 : h.pr * 256 + h.tos / 4 = k0) (hx1 : xN (h.src / 65536) (h.src % 65536) = x1) (hx2 : xN (h.dst / 65536) (h.dst % 65536) = x2) (hk3 : xN x1 x2 = k3) (h1 : h.pr = 6) (h2 : h.off ≠ 0)
    (KH : Hid (∀ v, Calls Try.prog 51 #[SV l] v fun e w' => e = .returned (.agg #[.int .u8 h.tos, .int .u16 h.id, .int .u8 h.fl, .int .u16 h.off, .int .u8 h.ttl, .int .u8 h.pr, .int .u32 h.src, .int .u32 h.dst, SV h.o]) ∧ Below v.heap.size v w'))
    (KY : Hid (∀ v, Calls Try.prog 52 #[SV l] v fun e w' => e = .returned (SV b) ∧ Below v.heap.size v w')) :
    Calls Try.prog 30 #[SV l] w fun e w' => e = .returned (.agg #[.int .u16 k0, .int .u16 0, .int .u16 0, .int .u16 k3]) ∧ Below w.heap.size w w' := by
  have ks := sv_size
  obtain ⟨o1, o2, o3, o4, o5, o6, o7, o8, o9⟩ := ok
  have hk0r : 0 ≤ k0 ∧ k0 ≤ 65535 := by omega
  have hr1 : 0 ≤ x1 ∧ x1 ≤ 65535 := by rw [← hx1]; exact xN_16 (by omega) (by omega)
  have hr2 : 0 ≤ x2 ∧ x2 ≤ 65535 := by rw [← hx2]; exact xN_16 (by omega) (by omega)
  have hr3 : 0 ≤ k3 ∧ k3 ≤ 65535 := by rw [← hk3]; exact xN_16 hr1 hr2
  have ht0 : h.tos.tdiv 4 = h.tos / 4 := Int.tdiv_eq_ediv_of_nonneg o1.1
  have ht1 : h.src.tdiv 65536 = h.src / 65536 := Int.tdiv_eq_ediv_of_nonneg o7.1
  have ht2 : h.src.tmod 65536 = h.src % 65536 := Int.tmod_eq_emod_of_nonneg o7.1
  have ht3 : h.dst.tdiv 65536 = h.dst / 65536 := Int.tdiv_eq_ediv_of_nonneg o8.1
  have ht4 : h.dst.tmod 65536 = h.dst % 65536 := Int.tmod_eq_emod_of_nonneg o8.1
  have hwk : IntKind.u16.wrap k0 = k0 := by simp [IntKind.wrap, IntKind.bits, IntKind.signed]; omega
  have hw3 : IntKind.u16.wrap k3 = k3 := by simp [IntKind.wrap, IntKind.bits, IntKind.signed]; omega
  have HX1 := hide hx1; have HX2 := hide hx2; have HK3 := hide hk3
  clear hx1 hx2 hk3
  have d6 : (h.pr == 6) = true := by simp; omega
  have d0 : (h.off == 0) = false := by simp; omega
  clear h1 h2
  go_enter Try.func30, Try.ntmps30
  go_wp2_with fail
  refine (KH.out _).mono ?_
  rintro e w1 ⟨rfl, hb1⟩
  have R1 : Blk w1 (w.heap.size) #[.int .u16 0, .int .u16 0, .int .u16 0, .int .u16 0] 48 := Blk.below (by (repeat' (first | (with_reducible (first | assumption | exact Blk.alloc_new _ _ _ (by first | rfl | (simp; done) | omega) | apply Blk.drewN | apply Blk.drew | apply Blk.alloc_old | apply Blk.set_same | apply Blk.set_other)) | (show (_ : Nat) ≠ _; first | omega | (simp; done) | (simp; omega)) | ((simp only [List.setIfInBounds_toArray, List.set_cons_succ, List.set_cons_zero]); (with_reducible exact rfl)) | (with_reducible exact rfl) | (show (_ : Array Value) = _; exact rfl)))) hb1 (by first | (simp; done) | omega | (simp; omega))
  have g1 : Below w.heap.size w w1 := by refine Below.trans ?_ (hb1.mono ?_) <;> (repeat' (first | (with_reducible (first | exact Below.refl _ _ | assumption | refine below_drewN ?_ _ | refine Below.drew ?_ | refine Below.alloc ?_ ?_ _ | refine Below.setCell ?_ ?_ _)) | go_size))
  have hz1 := hb1.size
  (try simp at hz1)
  clear hb1
  replace cR := R1.cell
  replace fR := R1.frozen
  replace zR := R1.size
  go_wp2_with fail
  refine (KY.out _).mono ?_
  rintro e w2 ⟨rfl, hb2⟩
  have R2 : Blk w2 (w.heap.size) #[.int .u16 0, .int .u16 0, .int .u16 0, .int .u16 0] 48 := Blk.below (by (repeat' (first | (with_reducible (first | assumption | exact Blk.alloc_new _ _ _ (by first | rfl | (simp; done) | omega) | apply Blk.drewN | apply Blk.drew | apply Blk.alloc_old | apply Blk.set_same | apply Blk.set_other)) | (show (_ : Nat) ≠ _; first | omega | (simp; done) | (simp; omega)) | ((simp only [List.setIfInBounds_toArray, List.set_cons_succ, List.set_cons_zero]); (with_reducible exact rfl)) | (with_reducible exact rfl) | (show (_ : Array Value) = _; exact rfl)))) hb2 (by first | (simp; done) | omega | (simp; omega))
  have A2 : Blk w2 (w1.heap.size) #[.int .u8 h.tos, .int .u16 h.id, .int .u8 h.fl, .int .u16 h.off, .int .u8 h.ttl, .int .u8 h.pr, .int .u32 h.src, .int .u32 h.dst, SV h.o] 121 := Blk.below (by (repeat' (first | (with_reducible (first | assumption | exact Blk.alloc_new _ _ _ (by first | rfl | (simp; done) | omega) | apply Blk.drewN | apply Blk.drew | apply Blk.alloc_old | apply Blk.set_same | apply Blk.set_other)) | (show (_ : Nat) ≠ _; first | omega | (simp; done) | (simp; omega)) | ((simp only [List.setIfInBounds_toArray, List.set_cons_succ, List.set_cons_zero]); (with_reducible exact rfl)) | (with_reducible exact rfl) | (show (_ : Array Value) = _; exact rfl)))) hb2 (by first | (simp; done) | omega | (simp; omega))
  have g2 : Below w.heap.size w w2 := by refine Below.trans ?_ (hb2.mono ?_) <;> (repeat' (first | (with_reducible (first | exact Below.refl _ _ | assumption | refine below_drewN ?_ _ | refine Below.drew ?_ | refine Below.alloc ?_ ?_ _ | refine Below.setCell ?_ ?_ _)) | go_size))
  have hz2 := hb2.size
  (try simp at hz2)
  clear hb2
  replace cR := R2.cell
  replace fR := R2.frozen
  replace zR := R2.size
  replace cA := A2.cell
  replace fA := A2.frozen
  replace zA := A2.size
  skip
  go_wp2_with fail
  refine (rxor (h.src / 65536) (h.src % 65536) x1 _ (by omega) (by omega) HX1.out).mono ?_
  rintro e w5 ⟨rfl, hb5⟩
  have R5 : Blk w5 (w.heap.size) #[.int .u16 0, .int .u16 0, .int .u16 0, .int .u16 0] 48 := Blk.below (by (repeat' (first | (with_reducible (first | assumption | exact Blk.alloc_new _ _ _ (by first | rfl | (simp; done) | omega) | apply Blk.drewN | apply Blk.drew | apply Blk.alloc_old | apply Blk.set_same | apply Blk.set_other)) | (show (_ : Nat) ≠ _; first | omega | (simp; done) | (simp; omega)) | ((simp only [List.setIfInBounds_toArray, List.set_cons_succ, List.set_cons_zero]); (with_reducible exact rfl)) | (with_reducible exact rfl) | (show (_ : Array Value) = _; exact rfl)))) hb5 (by first | (simp; done) | omega | (simp; omega))
  have A5 : Blk w5 (w1.heap.size) #[.int .u8 h.tos, .int .u16 h.id, .int .u8 h.fl, .int .u16 h.off, .int .u8 h.ttl, .int .u8 h.pr, .int .u32 h.src, .int .u32 h.dst, SV h.o] 121 := Blk.below (by (repeat' (first | (with_reducible (first | assumption | exact Blk.alloc_new _ _ _ (by first | rfl | (simp; done) | omega) | apply Blk.drewN | apply Blk.drew | apply Blk.alloc_old | apply Blk.set_same | apply Blk.set_other)) | (show (_ : Nat) ≠ _; first | omega | (simp; done) | (simp; omega)) | ((simp only [List.setIfInBounds_toArray, List.set_cons_succ, List.set_cons_zero]); (with_reducible exact rfl)) | (with_reducible exact rfl) | (show (_ : Array Value) = _; exact rfl)))) hb5 (by first | (simp; done) | omega | (simp; omega))
  have X5 : Blk w5 (w2.heap.size) #[.int .u16 k0, .int .u16 0, .int .u16 0, .int .u16 0] 48 := Blk.below (by (repeat' (first | (with_reducible (first | assumption | exact Blk.alloc_new _ _ _ (by first | rfl | (simp; done) | omega) | apply Blk.drewN | apply Blk.drew | apply Blk.alloc_old | apply Blk.set_same | apply Blk.set_other)) | (show (_ : Nat) ≠ _; first | omega | (simp; done) | (simp; omega)) | ((simp only [List.setIfInBounds_toArray, List.set_cons_succ, List.set_cons_zero]); (with_reducible exact rfl)) | (with_reducible exact rfl) | (show (_ : Array Value) = _; exact rfl)))) hb5 (by first | (simp; done) | omega | (simp; omega))
  have g5 : Below w.heap.size w w5 := by refine Below.trans ?_ (hb5.mono ?_) <;> (repeat' (first | (with_reducible (first | exact Below.refl _ _ | assumption | refine below_drewN ?_ _ | refine Below.drew ?_ | refine Below.alloc ?_ ?_ _ | refine Below.setCell ?_ ?_ _)) | go_size))
  have hz5 := hb5.size
  (try simp at hz5)
  clear hb5
  replace cR := R5.cell
  replace fR := R5.frozen
  replace zR := R5.size
  replace cA := A5.cell
  replace fA := A5.frozen
  replace zA := A5.size
  replace cX := X5.cell
  replace fX := X5.frozen
  replace zX := X5.size
  go_wp2_with fail
  refine (rxor (h.dst / 65536) (h.dst % 65536) x2 _ (by omega) (by omega) HX2.out).mono ?_
  rintro e w6 ⟨rfl, hb6⟩
  have R6 : Blk w6 (w.heap.size) #[.int .u16 0, .int .u16 0, .int .u16 0, .int .u16 0] 48 := Blk.below (by (repeat' (first | (with_reducible (first | assumption | exact Blk.alloc_new _ _ _ (by first | rfl | (simp; done) | omega) | apply Blk.drewN | apply Blk.drew | apply Blk.alloc_old | apply Blk.set_same | apply Blk.set_other)) | (show (_ : Nat) ≠ _; first | omega | (simp; done) | (simp; omega)) | ((simp only [List.setIfInBounds_toArray, List.set_cons_succ, List.set_cons_zero]); (with_reducible exact rfl)) | (with_reducible exact rfl) | (show (_ : Array Value) = _; exact rfl)))) hb6 (by first | (simp; done) | omega | (simp; omega))
  have A6 : Blk w6 (w1.heap.size) #[.int .u8 h.tos, .int .u16 h.id, .int .u8 h.fl, .int .u16 h.off, .int .u8 h.ttl, .int .u8 h.pr, .int .u32 h.src, .int .u32 h.dst, SV h.o] 121 := Blk.below (by (repeat' (first | (with_reducible (first | assumption | exact Blk.alloc_new _ _ _ (by first | rfl | (simp; done) | omega) | apply Blk.drewN | apply Blk.drew | apply Blk.alloc_old | apply Blk.set_same | apply Blk.set_other)) | (show (_ : Nat) ≠ _; first | omega | (simp; done) | (simp; omega)) | ((simp only [List.setIfInBounds_toArray, List.set_cons_succ, List.set_cons_zero]); (with_reducible exact rfl)) | (with_reducible exact rfl) | (show (_ : Array Value) = _; exact rfl)))) hb6 (by first | (simp; done) | omega | (simp; omega))
  have X6 : Blk w6 (w2.heap.size) #[.int .u16 k0, .int .u16 0, .int .u16 0, .int .u16 0] 48 := Blk.below (by (repeat' (first | (with_reducible (first | assumption | exact Blk.alloc_new _ _ _ (by first | rfl | (simp; done) | omega) | apply Blk.drewN | apply Blk.drew | apply Blk.alloc_old | apply Blk.set_same | apply Blk.set_other)) | (show (_ : Nat) ≠ _; first | omega | (simp; done) | (simp; omega)) | ((simp only [List.setIfInBounds_toArray, List.set_cons_succ, List.set_cons_zero]); (with_reducible exact rfl)) | (with_reducible exact rfl) | (show (_ : Array Value) = _; exact rfl)))) hb6 (by first | (simp; done) | omega | (simp; omega))
  have g6 : Below w.heap.size w w6 := by refine Below.trans ?_ (hb6.mono ?_) <;> (repeat' (first | (with_reducible (first | exact Below.refl _ _ | assumption | refine below_drewN ?_ _ | refine Below.drew ?_ | refine Below.alloc ?_ ?_ _ | refine Below.setCell ?_ ?_ _)) | go_size))
  have hz6 := hb6.size
  (try simp at hz6)
  clear hb6
  replace cR := R6.cell
  replace fR := R6.frozen
  replace zR := R6.size
  replace cA := A6.cell
  replace fA := A6.frozen
  replace zA := A6.size
  replace cX := X6.cell
  replace fX := X6.frozen
  replace zX := X6.size
  go_wp2_with fail
  refine (rxor x1 x2 k3 _ hr1 hr2 HK3.out).mono ?_
  rintro e w7 ⟨rfl, hb7⟩
  have R7 : Blk w7 (w.heap.size) #[.int .u16 0, .int .u16 0, .int .u16 0, .int .u16 0] 48 := Blk.below (by (repeat' (first | (with_reducible (first | assumption | exact Blk.alloc_new _ _ _ (by first | rfl | (simp; done) | omega) | apply Blk.drewN | apply Blk.drew | apply Blk.alloc_old | apply Blk.set_same | apply Blk.set_other)) | (show (_ : Nat) ≠ _; first | omega | (simp; done) | (simp; omega)) | ((simp only [List.setIfInBounds_toArray, List.set_cons_succ, List.set_cons_zero]); (with_reducible exact rfl)) | (with_reducible exact rfl) | (show (_ : Array Value) = _; exact rfl)))) hb7 (by first | (simp; done) | omega | (simp; omega))
  have A7 : Blk w7 (w1.heap.size) #[.int .u8 h.tos, .int .u16 h.id, .int .u8 h.fl, .int .u16 h.off, .int .u8 h.ttl, .int .u8 h.pr, .int .u32 h.src, .int .u32 h.dst, SV h.o] 121 := Blk.below (by (repeat' (first | (with_reducible (first | assumption | exact Blk.alloc_new _ _ _ (by first | rfl | (simp; done) | omega) | apply Blk.drewN | apply Blk.drew | apply Blk.alloc_old | apply Blk.set_same | apply Blk.set_other)) | (show (_ : Nat) ≠ _; first | omega | (simp; done) | (simp; omega)) | ((simp only [List.setIfInBounds_toArray, List.set_cons_succ, List.set_cons_zero]); (with_reducible exact rfl)) | (with_reducible exact rfl) | (show (_ : Array Value) = _; exact rfl)))) hb7 (by first | (simp; done) | omega | (simp; omega))
  have X7 : Blk w7 (w2.heap.size) #[.int .u16 k0, .int .u16 0, .int .u16 0, .int .u16 0] 48 := Blk.below (by (repeat' (first | (with_reducible (first | assumption | exact Blk.alloc_new _ _ _ (by first | rfl | (simp; done) | omega) | apply Blk.drewN | apply Blk.drew | apply Blk.alloc_old | apply Blk.set_same | apply Blk.set_other)) | (show (_ : Nat) ≠ _; first | omega | (simp; done) | (simp; omega)) | ((simp only [List.setIfInBounds_toArray, List.set_cons_succ, List.set_cons_zero]); (with_reducible exact rfl)) | (with_reducible exact rfl) | (show (_ : Array Value) = _; exact rfl)))) hb7 (by first | (simp; done) | omega | (simp; omega))
  have g7 : Below w.heap.size w w7 := by refine Below.trans ?_ (hb7.mono ?_) <;> (repeat' (first | (with_reducible (first | exact Below.refl _ _ | assumption | refine below_drewN ?_ _ | refine Below.drew ?_ | refine Below.alloc ?_ ?_ _ | refine Below.setCell ?_ ?_ _)) | go_size))
  have hz7 := hb7.size
  (try simp at hz7)
  clear hb7
  replace cR := R7.cell
  replace fR := R7.frozen
  replace zR := R7.size
  replace cA := A7.cell
  replace fA := A7.frozen
  replace zA := A7.size
  replace cX := X7.cell
  replace fX := X7.frozen
  replace zX := X7.size
  go_wp2_with (first | (refine store_blk 48 (.tmp 2) (.tmp 84) (w.heap.size) #[.int .u16 0, .int .u16 0, .int .u16 0, .int .u16 0] #[.int .u16 k0, .int .u16 0, .int .u16 0, .int .u16 k3] 48 (by rfl) (by rfl) (by rfl) (by rfl) (by (repeat' (first | (with_reducible (first | assumption | exact Blk.alloc_new _ _ _ (by first | rfl | (simp; done) | omega) | apply Blk.drewN | apply Blk.drew | apply Blk.alloc_old | apply Blk.set_same | apply Blk.set_other)) | (show (_ : Nat) ≠ _; first | omega | (simp; done) | (simp; omega)) | ((simp only [List.setIfInBounds_toArray, List.set_cons_succ, List.set_cons_zero]); (with_reducible exact rfl)) | (with_reducible exact rfl) | (show (_ : Array Value) = _; exact rfl)))) rfl (by kernel_rfl) (by simp [Value.oneCell']) ?_; intro v Bv kB kO hs; have gv : Below w.heap.size w v := kB _ _ (by first | (simp; done) | omega | (simp; omega)) (by (repeat' (first | (with_reducible (first | exact Below.refl _ _ | assumption | refine below_drewN ?_ _ | refine Below.drew ?_ | refine Below.alloc ?_ ?_ _ | refine Below.setCell ?_ ?_ _)) | go_size))); clear kB kO hs))
  refine bodyPost_ret (v := .agg #[.int .u16 k0, .int .u16 0, .int .u16 0, .int .u16 k3]) ?_ ?_ ?_
  · exact results_blk (w.heap.size) #[.int .u16 k0, .int .u16 0, .int .u16 0, .int .u16 k3] 48 _ _ _ Try.results30 (by rfl) Bv Try.underlying48 rfl (by kernel_rfl)
  · rfl
  · exact ⟨rfl, gv⟩
set_option maxRecDepth 100000 in
set_option maxHeartbeats 4000000 in
theorem rkey_c6 (l b : List Int) (h : HD) (k0 x1 x2 k3 : Int) (w : World) (ok : h.ok) (hbl : b.length ≤ 4611686018427387904) (hk0 : h.pr * 256 + h.tos / 4 = k0) (hx1 : xN (h.src / 65536) (h.src % 65536) = x1) (hx2 : xN (h.dst / 65536) (h.dst % 65536) = x2) (hk3 : xN x1 x2 = k3) (h1 : h.pr = 6) (h2 : h.off = 0) (h4 : b.length < 4)
    (KH : Hid (∀ v, Calls Try.prog 51 #[SV l] v fun e w' => e = .returned (.agg #[.int .u8 h.tos, .int .u16 h.id, .int .u8 h.fl, .int .u16 h.off, .int .u8 h.ttl, .int .u8 h.pr, .int .u32 h.src, .int .u32 h.dst, SV h.o]) ∧ Below v.heap.size v w'))
    (KY : Hid (∀ v, Calls Try.prog 52 #[SV l] v fun e w' => e = .returned (SV b) ∧ Below v.heap.size v w')) :
    Calls Try.prog 30 #[SV l] w fun e w' => e = .returned (.agg #[.int .u16 k0, .int .u16 0, .int .u16 0, .int .u16 k3]) ∧ Below w.heap.size w w' := by
  have ks := sv_size
  obtain ⟨o1, o2, o3, o4, o5, o6, o7, o8, o9⟩ := ok
  have hk0r : 0 ≤ k0 ∧ k0 ≤ 65535 := by omega
  have hr1 : 0 ≤ x1 ∧ x1 ≤ 65535 := by rw [← hx1]; exact xN_16 (by omega) (by omega)
  have hr2 : 0 ≤ x2 ∧ x2 ≤ 65535 := by rw [← hx2]; exact xN_16 (by omega) (by omega)
  have hr3 : 0 ≤ k3 ∧ k3 ≤ 65535 := by rw [← hk3]; exact xN_16 hr1 hr2
  have ht0 : h.tos.tdiv 4 = h.tos / 4 := Int.tdiv_eq_ediv_of_nonneg o1.1
  have ht1 : h.src.tdiv 65536 = h.src / 65536 := Int.tdiv_eq_ediv_of_nonneg o7.1
  have ht2 : h.src.tmod 65536 = h.src % 65536 := Int.tmod_eq_emod_of_nonneg o7.1
  have ht3 : h.dst.tdiv 65536 = h.dst / 65536 := Int.tdiv_eq_ediv_of_nonneg o8.1
  have ht4 : h.dst.tmod 65536 = h.dst % 65536 := Int.tmod_eq_emod_of_nonneg o8.1
  have hwk : IntKind.u16.wrap k0 = k0 := by simp [IntKind.wrap, IntKind.bits, IntKind.signed]; omega
  have hw3 : IntKind.u16.wrap k3 = k3 := by simp [IntKind.wrap, IntKind.bits, IntKind.signed]; omega
  have HX1 := hide hx1; have HX2 := hide hx2; have HK3 := hide hk3
  clear hx1 hx2 hk3
  have d6 : (h.pr == 6) = true := by simp; omega
  have d0 : (h.off == 0) = true := by simp; omega
  have d4 : decide (4 ≤ b.length) = false := decide_eq_false (by omega)
  have d4' : decide ((4 : Int) ≤ (b.length : Int)) = false := decide_eq_false (by omega)
  clear h1 h2
  go_enter Try.func30, Try.ntmps30
  go_wp2_with fail
  refine (KH.out _).mono ?_
  rintro e w1 ⟨rfl, hb1⟩
  have R1 : Blk w1 (w.heap.size) #[.int .u16 0, .int .u16 0, .int .u16 0, .int .u16 0] 48 := Blk.below (by (repeat' (first | (with_reducible (first | assumption | exact Blk.alloc_new _ _ _ (by first | rfl | (simp; done) | omega) | apply Blk.drewN | apply Blk.drew | apply Blk.alloc_old | apply Blk.set_same | apply Blk.set_other)) | (show (_ : Nat) ≠ _; first | omega | (simp; done) | (simp; omega)) | ((simp only [List.setIfInBounds_toArray, List.set_cons_succ, List.set_cons_zero]); (with_reducible exact rfl)) | (with_reducible exact rfl) | (show (_ : Array Value) = _; exact rfl)))) hb1 (by first | (simp; done) | omega | (simp; omega))
  have g1 : Below w.heap.size w w1 := by refine Below.trans ?_ (hb1.mono ?_) <;> (repeat' (first | (with_reducible (first | exact Below.refl _ _ | assumption | refine below_drewN ?_ _ | refine Below.drew ?_ | refine Below.alloc ?_ ?_ _ | refine Below.setCell ?_ ?_ _)) | go_size))
  have hz1 := hb1.size
  (try simp at hz1)
  clear hb1
  replace cR := R1.cell
  replace fR := R1.frozen
  replace zR := R1.size
  go_wp2_with fail
  refine (KY.out _).mono ?_
  rintro e w2 ⟨rfl, hb2⟩
  have R2 : Blk w2 (w.heap.size) #[.int .u16 0, .int .u16 0, .int .u16 0, .int .u16 0] 48 := Blk.below (by (repeat' (first | (with_reducible (first | assumption | exact Blk.alloc_new _ _ _ (by first | rfl | (simp; done) | omega) | apply Blk.drewN | apply Blk.drew | apply Blk.alloc_old | apply Blk.set_same | apply Blk.set_other)) | (show (_ : Nat) ≠ _; first | omega | (simp; done) | (simp; omega)) | ((simp only [List.setIfInBounds_toArray, List.set_cons_succ, List.set_cons_zero]); (with_reducible exact rfl)) | (with_reducible exact rfl) | (show (_ : Array Value) = _; exact rfl)))) hb2 (by first | (simp; done) | omega | (simp; omega))
  have A2 : Blk w2 (w1.heap.size) #[.int .u8 h.tos, .int .u16 h.id, .int .u8 h.fl, .int .u16 h.off, .int .u8 h.ttl, .int .u8 h.pr, .int .u32 h.src, .int .u32 h.dst, SV h.o] 121 := Blk.below (by (repeat' (first | (with_reducible (first | assumption | exact Blk.alloc_new _ _ _ (by first | rfl | (simp; done) | omega) | apply Blk.drewN | apply Blk.drew | apply Blk.alloc_old | apply Blk.set_same | apply Blk.set_other)) | (show (_ : Nat) ≠ _; first | omega | (simp; done) | (simp; omega)) | ((simp only [List.setIfInBounds_toArray, List.set_cons_succ, List.set_cons_zero]); (with_reducible exact rfl)) | (with_reducible exact rfl) | (show (_ : Array Value) = _; exact rfl)))) hb2 (by first | (simp; done) | omega | (simp; omega))
  have g2 : Below w.heap.size w w2 := by refine Below.trans ?_ (hb2.mono ?_) <;> (repeat' (first | (with_reducible (first | exact Below.refl _ _ | assumption | refine below_drewN ?_ _ | refine Below.drew ?_ | refine Below.alloc ?_ ?_ _ | refine Below.setCell ?_ ?_ _)) | go_size))
  have hz2 := hb2.size
  (try simp at hz2)
  clear hb2
  replace cR := R2.cell
  replace fR := R2.frozen
  replace zR := R2.size
  replace cA := A2.cell
  replace fA := A2.frozen
  replace zA := A2.size
  skip
  go_wp2_with fail
  refine (rxor (h.src / 65536) (h.src % 65536) x1 _ (by omega) (by omega) HX1.out).mono ?_
  rintro e w5 ⟨rfl, hb5⟩
  have R5 : Blk w5 (w.heap.size) #[.int .u16 0, .int .u16 0, .int .u16 0, .int .u16 0] 48 := Blk.below (by (repeat' (first | (with_reducible (first | assumption | exact Blk.alloc_new _ _ _ (by first | rfl | (simp; done) | omega) | apply Blk.drewN | apply Blk.drew | apply Blk.alloc_old | apply Blk.set_same | apply Blk.set_other)) | (show (_ : Nat) ≠ _; first | omega | (simp; done) | (simp; omega)) | ((simp only [List.setIfInBounds_toArray, List.set_cons_succ, List.set_cons_zero]); (with_reducible exact rfl)) | (with_reducible exact rfl) | (show (_ : Array Value) = _; exact rfl)))) hb5 (by first | (simp; done) | omega | (simp; omega))
  have A5 : Blk w5 (w1.heap.size) #[.int .u8 h.tos, .int .u16 h.id, .int .u8 h.fl, .int .u16 h.off, .int .u8 h.ttl, .int .u8 h.pr, .int .u32 h.src, .int .u32 h.dst, SV h.o] 121 := Blk.below (by (repeat' (first | (with_reducible (first | assumption | exact Blk.alloc_new _ _ _ (by first | rfl | (simp; done) | omega) | apply Blk.drewN | apply Blk.drew | apply Blk.alloc_old | apply Blk.set_same | apply Blk.set_other)) | (show (_ : Nat) ≠ _; first | omega | (simp; done) | (simp; omega)) | ((simp only [List.setIfInBounds_toArray, List.set_cons_succ, List.set_cons_zero]); (with_reducible exact rfl)) | (with_reducible exact rfl) | (show (_ : Array Value) = _; exact rfl)))) hb5 (by first | (simp; done) | omega | (simp; omega))
  have X5 : Blk w5 (w2.heap.size) #[.int .u16 k0, .int .u16 0, .int .u16 0, .int .u16 0] 48 := Blk.below (by (repeat' (first | (with_reducible (first | assumption | exact Blk.alloc_new _ _ _ (by first | rfl | (simp; done) | omega) | apply Blk.drewN | apply Blk.drew | apply Blk.alloc_old | apply Blk.set_same | apply Blk.set_other)) | (show (_ : Nat) ≠ _; first | omega | (simp; done) | (simp; omega)) | ((simp only [List.setIfInBounds_toArray, List.set_cons_succ, List.set_cons_zero]); (with_reducible exact rfl)) | (with_reducible exact rfl) | (show (_ : Array Value) = _; exact rfl)))) hb5 (by first | (simp; done) | omega | (simp; omega))
  have g5 : Below w.heap.size w w5 := by refine Below.trans ?_ (hb5.mono ?_) <;> (repeat' (first | (with_reducible (first | exact Below.refl _ _ | assumption | refine below_drewN ?_ _ | refine Below.drew ?_ | refine Below.alloc ?_ ?_ _ | refine Below.setCell ?_ ?_ _)) | go_size))
  have hz5 := hb5.size
  (try simp at hz5)
  clear hb5
  replace cR := R5.cell
  replace fR := R5.frozen
  replace zR := R5.size
  replace cA := A5.cell
  replace fA := A5.frozen
  replace zA := A5.size
  replace cX := X5.cell
  replace fX := X5.frozen
  replace zX := X5.size
  go_wp2_with fail
  refine (rxor (h.dst / 65536) (h.dst % 65536) x2 _ (by omega) (by omega) HX2.out).mono ?_
  rintro e w6 ⟨rfl, hb6⟩
  have R6 : Blk w6 (w.heap.size) #[.int .u16 0, .int .u16 0, .int .u16 0, .int .u16 0] 48 := Blk.below (by (repeat' (first | (with_reducible (first | assumption | exact Blk.alloc_new _ _ _ (by first | rfl | (simp; done) | omega) | apply Blk.drewN | apply Blk.drew | apply Blk.alloc_old | apply Blk.set_same | apply Blk.set_other)) | (show (_ : Nat) ≠ _; first | omega | (simp; done) | (simp; omega)) | ((simp only [List.setIfInBounds_toArray, List.set_cons_succ, List.set_cons_zero]); (with_reducible exact rfl)) | (with_reducible exact rfl) | (show (_ : Array Value) = _; exact rfl)))) hb6 (by first | (simp; done) | omega | (simp; omega))
  have A6 : Blk w6 (w1.heap.size) #[.int .u8 h.tos, .int .u16 h.id, .int .u8 h.fl, .int .u16 h.off, .int .u8 h.ttl, .int .u8 h.pr, .int .u32 h.src, .int .u32 h.dst, SV h.o] 121 := Blk.below (by (repeat' (first | (with_reducible (first | assumption | exact Blk.alloc_new _ _ _ (by first | rfl | (simp; done) | omega) | apply Blk.drewN | apply Blk.drew | apply Blk.alloc_old | apply Blk.set_same | apply Blk.set_other)) | (show (_ : Nat) ≠ _; first | omega | (simp; done) | (simp; omega)) | ((simp only [List.setIfInBounds_toArray, List.set_cons_succ, List.set_cons_zero]); (with_reducible exact rfl)) | (with_reducible exact rfl) | (show (_ : Array Value) = _; exact rfl)))) hb6 (by first | (simp; done) | omega | (simp; omega))
  have X6 : Blk w6 (w2.heap.size) #[.int .u16 k0, .int .u16 0, .int .u16 0, .int .u16 0] 48 := Blk.below (by (repeat' (first | (with_reducible (first | assumption | exact Blk.alloc_new _ _ _ (by first | rfl | (simp; done) | omega) | apply Blk.drewN | apply Blk.drew | apply Blk.alloc_old | apply Blk.set_same | apply Blk.set_other)) | (show (_ : Nat) ≠ _; first | omega | (simp; done) | (simp; omega)) | ((simp only [List.setIfInBounds_toArray, List.set_cons_succ, List.set_cons_zero]); (with_reducible exact rfl)) | (with_reducible exact rfl) | (show (_ : Array Value) = _; exact rfl)))) hb6 (by first | (simp; done) | omega | (simp; omega))
  have g6 : Below w.heap.size w w6 := by refine Below.trans ?_ (hb6.mono ?_) <;> (repeat' (first | (with_reducible (first | exact Below.refl _ _ | assumption | refine below_drewN ?_ _ | refine Below.drew ?_ | refine Below.alloc ?_ ?_ _ | refine Below.setCell ?_ ?_ _)) | go_size))
  have hz6 := hb6.size
  (try simp at hz6)
  clear hb6
  replace cR := R6.cell
  replace fR := R6.frozen
  replace zR := R6.size
  replace cA := A6.cell
  replace fA := A6.frozen
  replace zA := A6.size
  replace cX := X6.cell
  replace fX := X6.frozen
  replace zX := X6.size
  go_wp2_with fail
  refine (rxor x1 x2 k3 _ hr1 hr2 HK3.out).mono ?_
  rintro e w7 ⟨rfl, hb7⟩
  have R7 : Blk w7 (w.heap.size) #[.int .u16 0, .int .u16 0, .int .u16 0, .int .u16 0] 48 := Blk.below (by (repeat' (first | (with_reducible (first | assumption | exact Blk.alloc_new _ _ _ (by first | rfl | (simp; done) | omega) | apply Blk.drewN | apply Blk.drew | apply Blk.alloc_old | apply Blk.set_same | apply Blk.set_other)) | (show (_ : Nat) ≠ _; first | omega | (simp; done) | (simp; omega)) | ((simp only [List.setIfInBounds_toArray, List.set_cons_succ, List.set_cons_zero]); (with_reducible exact rfl)) | (with_reducible exact rfl) | (show (_ : Array Value) = _; exact rfl)))) hb7 (by first | (simp; done) | omega | (simp; omega))
  have A7 : Blk w7 (w1.heap.size) #[.int .u8 h.tos, .int .u16 h.id, .int .u8 h.fl, .int .u16 h.off, .int .u8 h.ttl, .int .u8 h.pr, .int .u32 h.src, .int .u32 h.dst, SV h.o] 121 := Blk.below (by (repeat' (first | (with_reducible (first | assumption | exact Blk.alloc_new _ _ _ (by first | rfl | (simp; done) | omega) | apply Blk.drewN | apply Blk.drew | apply Blk.alloc_old | apply Blk.set_same | apply Blk.set_other)) | (show (_ : Nat) ≠ _; first | omega | (simp; done) | (simp; omega)) | ((simp only [List.setIfInBounds_toArray, List.set_cons_succ, List.set_cons_zero]); (with_reducible exact rfl)) | (with_reducible exact rfl) | (show (_ : Array Value) = _; exact rfl)))) hb7 (by first | (simp; done) | omega | (simp; omega))
  have X7 : Blk w7 (w2.heap.size) #[.int .u16 k0, .int .u16 0, .int .u16 0, .int .u16 0] 48 := Blk.below (by (repeat' (first | (with_reducible (first | assumption | exact Blk.alloc_new _ _ _ (by first | rfl | (simp; done) | omega) | apply Blk.drewN | apply Blk.drew | apply Blk.alloc_old | apply Blk.set_same | apply Blk.set_other)) | (show (_ : Nat) ≠ _; first | omega | (simp; done) | (simp; omega)) | ((simp only [List.setIfInBounds_toArray, List.set_cons_succ, List.set_cons_zero]); (with_reducible exact rfl)) | (with_reducible exact rfl) | (show (_ : Array Value) = _; exact rfl)))) hb7 (by first | (simp; done) | omega | (simp; omega))
  have g7 : Below w.heap.size w w7 := by refine Below.trans ?_ (hb7.mono ?_) <;> (repeat' (first | (with_reducible (first | exact Below.refl _ _ | assumption | refine below_drewN ?_ _ | refine Below.drew ?_ | refine Below.alloc ?_ ?_ _ | refine Below.setCell ?_ ?_ _)) | go_size))
  have hz7 := hb7.size
  (try simp at hz7)
  clear hb7
  replace cR := R7.cell
  replace fR := R7.frozen
  replace zR := R7.size
  replace cA := A7.cell
  replace fA := A7.frozen
  replace zA := A7.size
  replace cX := X7.cell
  replace fX := X7.frozen
  replace zX := X7.size
  go_wp2_with (first | (refine store_blk 48 (.tmp 2) (.tmp 84) (w.heap.size) #[.int .u16 0, .int .u16 0, .int .u16 0, .int .u16 0] #[.int .u16 k0, .int .u16 0, .int .u16 0, .int .u16 k3] 48 (by rfl) (by rfl) (by rfl) (by rfl) (by (repeat' (first | (with_reducible (first | assumption | exact Blk.alloc_new _ _ _ (by first | rfl | (simp; done) | omega) | apply Blk.drewN | apply Blk.drew | apply Blk.alloc_old | apply Blk.set_same | apply Blk.set_other)) | (show (_ : Nat) ≠ _; first | omega | (simp; done) | (simp; omega)) | ((simp only [List.setIfInBounds_toArray, List.set_cons_succ, List.set_cons_zero]); (with_reducible exact rfl)) | (with_reducible exact rfl) | (show (_ : Array Value) = _; exact rfl)))) rfl (by kernel_rfl) (by simp [Value.oneCell']) ?_; intro v Bv kB kO hs; have gv : Below w.heap.size w v := kB _ _ (by first | (simp; done) | omega | (simp; omega)) (by (repeat' (first | (with_reducible (first | exact Below.refl _ _ | assumption | refine below_drewN ?_ _ | refine Below.drew ?_ | refine Below.alloc ?_ ?_ _ | refine Below.setCell ?_ ?_ _)) | go_size))); clear kB kO hs))
  refine bodyPost_ret (v := .agg #[.int .u16 k0, .int .u16 0, .int .u16 0, .int .u16 k3]) ?_ ?_ ?_
  · exact results_blk (w.heap.size) #[.int .u16 k0, .int .u16 0, .int .u16 0, .int .u16 k3] 48 _ _ _ Try.results30 (by rfl) Bv Try.underlying48 rfl (by kernel_rfl)
  · rfl
  · exact ⟨rfl, gv⟩
set_option maxRecDepth 100000 in
set_option maxHeartbeats 4000000 in
theorem rkey_d6 (l b : List Int) (h : HD) (k0 x1 x2 k3 : Int) (w : World) (ok : h.ok) (hbl : b.length ≤ 4611686018427387904) (hk0 : h.pr * 256 + h.tos / 4 = k0) (hx1 : xN (h.src / 65536) (h.src % 65536) = x1) (hx2 : xN (h.dst / 65536) (h.dst % 65536) = x2) (hk3 : xN x1 x2 = k3) (p1 p2 : Int) (hb : Byt b) (h1 : h.pr = 6) (h2 : h.off = 0) (h4 : 4 ≤ b.length) (hp1 : b.getD 0 0 * 256 + b.getD 1 0 = p1) (hp2 : b.getD 2 0 * 256 + b.getD 3 0 = p2)
    (KH : Hid (∀ v, Calls Try.prog 51 #[SV l] v fun e w' => e = .returned (.agg #[.int .u8 h.tos, .int .u16 h.id, .int .u8 h.fl, .int .u16 h.off, .int .u8 h.ttl, .int .u8 h.pr, .int .u32 h.src, .int .u32 h.dst, SV h.o]) ∧ Below v.heap.size v w'))
    (KY : Hid (∀ v, Calls Try.prog 52 #[SV l] v fun e w' => e = .returned (SV b) ∧ Below v.heap.size v w')) :
    Calls Try.prog 30 #[SV l] w fun e w' => e = .returned (.agg #[.int .u16 k0, .int .u16 p1, .int .u16 p2, .int .u16 k3]) ∧ Below w.heap.size w w' := by
  have ks := sv_size
  obtain ⟨o1, o2, o3, o4, o5, o6, o7, o8, o9⟩ := ok
  have hk0r : 0 ≤ k0 ∧ k0 ≤ 65535 := by omega
  have hr1 : 0 ≤ x1 ∧ x1 ≤ 65535 := by rw [← hx1]; exact xN_16 (by omega) (by omega)
  have hr2 : 0 ≤ x2 ∧ x2 ≤ 65535 := by rw [← hx2]; exact xN_16 (by omega) (by omega)
  have hr3 : 0 ≤ k3 ∧ k3 ≤ 65535 := by rw [← hk3]; exact xN_16 hr1 hr2
  have ht0 : h.tos.tdiv 4 = h.tos / 4 := Int.tdiv_eq_ediv_of_nonneg o1.1
  have ht1 : h.src.tdiv 65536 = h.src / 65536 := Int.tdiv_eq_ediv_of_nonneg o7.1
  have ht2 : h.src.tmod 65536 = h.src % 65536 := Int.tmod_eq_emod_of_nonneg o7.1
  have ht3 : h.dst.tdiv 65536 = h.dst / 65536 := Int.tdiv_eq_ediv_of_nonneg o8.1
  have ht4 : h.dst.tmod 65536 = h.dst % 65536 := Int.tmod_eq_emod_of_nonneg o8.1
  have hwk : IntKind.u16.wrap k0 = k0 := by simp [IntKind.wrap, IntKind.bits, IntKind.signed]; omega
  have hw3 : IntKind.u16.wrap k3 = k3 := by simp [IntKind.wrap, IntKind.bits, IntKind.signed]; omega
  have HX1 := hide hx1; have HX2 := hide hx2; have HK3 := hide hk3
  clear hx1 hx2 hk3
  have d6 : (h.pr == 6) = true := by simp; omega
  have d0 : (h.off == 0) = true := by simp; omega
  have d4 : decide (4 ≤ b.length) = true := decide_eq_true (by omega)
  have d4' : decide ((4 : Int) ≤ (b.length : Int)) = true := decide_eq_true (by omega)
  clear h1 h2
  obtain ⟨y0, hy0⟩ : ∃ x, b.getD 0 0 = x := ⟨_, rfl⟩
  have r0 := hb.get 0
  rw [hy0] at r0
  have ix0 : ∀ v, (Instr.index 9 (SV b) (.int .i64 0)).run Try.prog v = .ok (.int .u8 y0) v := fun v => sv_idx hb 0 y0 (by omega) hy0 v
  have wi0 : IntKind.i64.wrap y0 = y0 := IntWalk.i64_in _ ⟨by omega, by omega⟩
  have wj0 : IntKind.i64.wrap (256 * y0) = 256 * y0 := IntWalk.i64_in _ ⟨by omega, by omega⟩
  obtain ⟨y1, hy1⟩ : ∃ x, b.getD 1 0 = x := ⟨_, rfl⟩
  have r1 := hb.get 1
  rw [hy1] at r1
  have ix1 : ∀ v, (Instr.index 9 (SV b) (.int .i64 1)).run Try.prog v = .ok (.int .u8 y1) v := fun v => sv_idx hb 1 y1 (by omega) hy1 v
  have wi1 : IntKind.i64.wrap y1 = y1 := IntWalk.i64_in _ ⟨by omega, by omega⟩
  have wj1 : IntKind.i64.wrap (256 * y1) = 256 * y1 := IntWalk.i64_in _ ⟨by omega, by omega⟩
  obtain ⟨y2, hy2⟩ : ∃ x, b.getD 2 0 = x := ⟨_, rfl⟩
  have r2 := hb.get 2
  rw [hy2] at r2
  have ix2 : ∀ v, (Instr.index 9 (SV b) (.int .i64 2)).run Try.prog v = .ok (.int .u8 y2) v := fun v => sv_idx hb 2 y2 (by omega) hy2 v
  have wi2 : IntKind.i64.wrap y2 = y2 := IntWalk.i64_in _ ⟨by omega, by omega⟩
  have wj2 : IntKind.i64.wrap (256 * y2) = 256 * y2 := IntWalk.i64_in _ ⟨by omega, by omega⟩
  obtain ⟨y3, hy3⟩ : ∃ x, b.getD 3 0 = x := ⟨_, rfl⟩
  have r3 := hb.get 3
  rw [hy3] at r3
  have ix3 : ∀ v, (Instr.index 9 (SV b) (.int .i64 3)).run Try.prog v = .ok (.int .u8 y3) v := fun v => sv_idx hb 3 y3 (by omega) hy3 v
  have wi3 : IntKind.i64.wrap y3 = y3 := IntWalk.i64_in _ ⟨by omega, by omega⟩
  have wj3 : IntKind.i64.wrap (256 * y3) = 256 * y3 := IntWalk.i64_in _ ⟨by omega, by omega⟩
  rw [hy0, hy1] at hp1; rw [hy2, hy3] at hp2
  have ep1 : 256 * y0 + y1 = p1 := by omega
  have rp1 : 0 ≤ p1 ∧ p1 ≤ 65535 := by omega
  have wlp1 : IntKind.i64.wrap p1 = p1 := IntWalk.i64_in _ ⟨by omega, by omega⟩
  have wup1 : IntKind.u16.wrap p1 = p1 := by simp [IntKind.wrap, IntKind.bits, IntKind.signed]; omega
  have ep2 : 256 * y2 + y3 = p2 := by omega
  have rp2 : 0 ≤ p2 ∧ p2 ≤ 65535 := by omega
  have wlp2 : IntKind.i64.wrap p2 = p2 := IntWalk.i64_in _ ⟨by omega, by omega⟩
  have wup2 : IntKind.u16.wrap p2 = p2 := by simp [IntKind.wrap, IntKind.bits, IntKind.signed]; omega
  clear hy0 hy1 hy2 hy3 hp1 hp2
  go_enter Try.func30, Try.ntmps30
  go_wp2_with fail
  refine (KH.out _).mono ?_
  rintro e w1 ⟨rfl, hb1⟩
  have R1 : Blk w1 (w.heap.size) #[.int .u16 0, .int .u16 0, .int .u16 0, .int .u16 0] 48 := Blk.below (by (repeat' (first | (with_reducible (first | assumption | exact Blk.alloc_new _ _ _ (by first | rfl | (simp; done) | omega) | apply Blk.drewN | apply Blk.drew | apply Blk.alloc_old | apply Blk.set_same | apply Blk.set_other)) | (show (_ : Nat) ≠ _; first | omega | (simp; done) | (simp; omega)) | ((simp only [List.setIfInBounds_toArray, List.set_cons_succ, List.set_cons_zero]); (with_reducible exact rfl)) | (with_reducible exact rfl) | (show (_ : Array Value) = _; exact rfl)))) hb1 (by first | (simp; done) | omega | (simp; omega))
  have g1 : Below w.heap.size w w1 := by refine Below.trans ?_ (hb1.mono ?_) <;> (repeat' (first | (with_reducible (first | exact Below.refl _ _ | assumption | refine below_drewN ?_ _ | refine Below.drew ?_ | refine Below.alloc ?_ ?_ _ | refine Below.setCell ?_ ?_ _)) | go_size))
  have hz1 := hb1.size
  (try simp at hz1)
  clear hb1
  replace cR := R1.cell
  replace fR := R1.frozen
  replace zR := R1.size
  go_wp2_with fail
  refine (KY.out _).mono ?_
  rintro e w2 ⟨rfl, hb2⟩
  have R2 : Blk w2 (w.heap.size) #[.int .u16 0, .int .u16 0, .int .u16 0, .int .u16 0] 48 := Blk.below (by (repeat' (first | (with_reducible (first | assumption | exact Blk.alloc_new _ _ _ (by first | rfl | (simp; done) | omega) | apply Blk.drewN | apply Blk.drew | apply Blk.alloc_old | apply Blk.set_same | apply Blk.set_other)) | (show (_ : Nat) ≠ _; first | omega | (simp; done) | (simp; omega)) | ((simp only [List.setIfInBounds_toArray, List.set_cons_succ, List.set_cons_zero]); (with_reducible exact rfl)) | (with_reducible exact rfl) | (show (_ : Array Value) = _; exact rfl)))) hb2 (by first | (simp; done) | omega | (simp; omega))
  have A2 : Blk w2 (w1.heap.size) #[.int .u8 h.tos, .int .u16 h.id, .int .u8 h.fl, .int .u16 h.off, .int .u8 h.ttl, .int .u8 h.pr, .int .u32 h.src, .int .u32 h.dst, SV h.o] 121 := Blk.below (by (repeat' (first | (with_reducible (first | assumption | exact Blk.alloc_new _ _ _ (by first | rfl | (simp; done) | omega) | apply Blk.drewN | apply Blk.drew | apply Blk.alloc_old | apply Blk.set_same | apply Blk.set_other)) | (show (_ : Nat) ≠ _; first | omega | (simp; done) | (simp; omega)) | ((simp only [List.setIfInBounds_toArray, List.set_cons_succ, List.set_cons_zero]); (with_reducible exact rfl)) | (with_reducible exact rfl) | (show (_ : Array Value) = _; exact rfl)))) hb2 (by first | (simp; done) | omega | (simp; omega))
  have g2 : Below w.heap.size w w2 := by refine Below.trans ?_ (hb2.mono ?_) <;> (repeat' (first | (with_reducible (first | exact Below.refl _ _ | assumption | refine below_drewN ?_ _ | refine Below.drew ?_ | refine Below.alloc ?_ ?_ _ | refine Below.setCell ?_ ?_ _)) | go_size))
  have hz2 := hb2.size
  (try simp at hz2)
  clear hb2
  replace cR := R2.cell
  replace fR := R2.frozen
  replace zR := R2.size
  replace cA := A2.cell
  replace fA := A2.frozen
  replace zA := A2.size
  go_upto_region 5 with (fail)
  refine wp_forget (fun v => Below w.heap.size w v ∧ Blk v (w.heap.size) #[.int .u16 0, .int .u16 0, .int .u16 0, .int .u16 0] 48 ∧ Blk v (w1.heap.size) #[.int .u8 h.tos, .int .u16 h.id, .int .u8 h.fl, .int .u16 h.off, .int .u8 h.ttl, .int .u8 h.pr, .int .u32 h.src, .int .u32 h.dst, SV h.o] 121 ∧ Blk v (w2.heap.size) #[.int .u16 k0, .int .u16 0, .int .u16 0, .int .u16 0] 48) ⟨by (repeat' (first | (with_reducible (first | exact Below.refl _ _ | assumption | refine below_drewN ?_ _ | refine Below.drew ?_ | refine Below.alloc ?_ ?_ _ | refine Below.setCell ?_ ?_ _)) | go_size)), by (repeat' (first | (with_reducible (first | assumption | exact Blk.alloc_new _ _ _ (by first | rfl | (simp; done) | omega) | apply Blk.drewN | apply Blk.drew | apply Blk.alloc_old | apply Blk.set_same | apply Blk.set_other)) | (show (_ : Nat) ≠ _; first | omega | (simp; done) | (simp; omega)) | ((simp only [List.setIfInBounds_toArray, List.set_cons_succ, List.set_cons_zero]); (with_reducible exact rfl)) | (with_reducible exact rfl) | (show (_ : Array Value) = _; exact rfl))), by (repeat' (first | (with_reducible (first | assumption | exact Blk.alloc_new _ _ _ (by first | rfl | (simp; done) | omega) | apply Blk.drewN | apply Blk.drew | apply Blk.alloc_old | apply Blk.set_same | apply Blk.set_other)) | (show (_ : Nat) ≠ _; first | omega | (simp; done) | (simp; omega)) | ((simp only [List.setIfInBounds_toArray, List.set_cons_succ, List.set_cons_zero]); (with_reducible exact rfl)) | (with_reducible exact rfl) | (show (_ : Array Value) = _; exact rfl))), by (repeat' (first | (with_reducible (first | assumption | exact Blk.alloc_new _ _ _ (by first | rfl | (simp; done) | omega) | apply Blk.drewN | apply Blk.drew | apply Blk.alloc_old | apply Blk.set_same | apply Blk.set_other)) | (show (_ : Nat) ≠ _; first | omega | (simp; done) | (simp; omega)) | ((simp only [List.setIfInBounds_toArray, List.set_cons_succ, List.set_cons_zero]); (with_reducible exact rfl)) | (with_reducible exact rfl) | (show (_ : Array Value) = _; exact rfl)))⟩ ?_
  rintro w3 ⟨g3, R3, A3, X3⟩
  have hz3 := g3.size
  replace cR := R3.cell
  replace fR := R3.frozen
  replace zR := R3.size
  replace cA := A3.cell
  replace fA := A3.frozen
  replace zA := A3.size
  replace cX := X3.cell
  replace fX := X3.frozen
  replace zX := X3.size
  have hlt1 : w.heap.size < w1.heap.size := R1.size
  have hlt2 : w1.heap.size < w2.heap.size := A2.size
  go_cut [49] (fun s49 wx => s49 = .int .u16 p1 ∧ Below w.heap.size w wx ∧ Blk wx (w.heap.size) #[.int .u16 0, .int .u16 0, .int .u16 0, .int .u16 0] 48 ∧ Blk wx (w1.heap.size) #[.int .u8 h.tos, .int .u16 h.id, .int .u8 h.fl, .int .u16 h.off, .int .u8 h.ttl, .int .u8 h.pr, .int .u32 h.src, .int .u32 h.dst, SV h.o] 121 ∧ Blk wx (w2.heap.size) #[.int .u16 k0, .int .u16 p1, .int .u16 0, .int .u16 0] 48)
  case first =>
    refine wp_region_guarS (w.heap.size) (w2.heap.size + 1) [(w.heap.size, #[.int .u16 0, .int .u16 0, .int .u16 0, .int .u16 0], 48), (w1.heap.size, #[.int .u8 h.tos, .int .u16 h.id, .int .u8 h.fl, .int .u16 h.off, .int .u8 h.ttl, .int .u8 h.pr, .int .u32 h.src, .int .u32 h.dst, SV h.o], 121)] [] [(w2.heap.size, #[.int .u16 k0, .int .u16 p1, .int .u16 0, .int .u16 0], 48)] [(w2.heap.size, 0, .int .u16 k0), (w2.heap.size, 1, .int .u16 p1), (w2.heap.size, 2, .int .u16 0), (w2.heap.size, 3, .int .u16 0)] [.val (SV b), .val (.int .u8 (y0)), .val (.int .i64 (y0)), .val (.int .i64 (256 * y0)), .val (SV b), .val (.int .u8 (y1)), .val (.int .i64 (y1)), .val (.int .i64 (p1)), .val (.int .u16 (p1)), .val (.pointer (some ⟨w2.heap.size, 1, none⟩)), .sets [1]] (by kernel_rfl) (by kernel_rfl) (by omega) (by omega) (by intro f m; simp only [List.mem_cons, List.not_mem_nil, or_false, List.append_nil, List.nil_append, List.cons_append] at m; rcases m with rfl | rfl <;> ((show Blk _ _ _ _) <;> (repeat' (first | (with_reducible (first | assumption | exact Blk.alloc_new _ _ _ (by first | rfl | (simp; done) | omega) | apply Blk.drewN | apply Blk.drew | apply Blk.alloc_old | apply Blk.set_same | apply Blk.set_other)) | (show (_ : Nat) ≠ _; first | omega | (simp; done) | (simp; omega)) | ((simp only [List.setIfInBounds_toArray, List.set_cons_succ, List.set_cons_zero]); (with_reducible exact rfl)) | (with_reducible exact rfl) | (show (_ : Array Value) = _; exact rfl))))) (by intro f m; simp only [List.mem_cons, List.not_mem_nil, or_false, List.append_nil, List.nil_append, List.cons_append] at m; rcases m with rfl <;> (first | (exact ⟨#[.int .u16 k0, .int .u16 0, .int .u16 0, .int .u16 0], rfl, by (repeat' (first | (with_reducible (first | assumption | exact Blk.alloc_new _ _ _ (by first | rfl | (simp; done) | omega) | apply Blk.drewN | apply Blk.drew | apply Blk.alloc_old | apply Blk.set_same | apply Blk.set_other)) | (show (_ : Nat) ≠ _; first | omega | (simp; done) | (simp; omega)) | ((simp only [List.setIfInBounds_toArray, List.set_cons_succ, List.set_cons_zero]); (with_reducible exact rfl)) | (with_reducible exact rfl) | (show (_ : Array Value) = _; exact rfl)))⟩))) ?_ ?_
    · refine ⟨?_, ?_, ?_, ?_, ?_, ?_, ?_, ?_, ?_, ?_, ?_, trivial⟩
      · intro a v c
        have e4 : a.eval (.tmp 4) = SV b := (c.off 4 (by kernel_rfl)).trans rfl
        have f4 := (eval_opt a 4).trans e4
        exact gvalS (SV b) (by simp only [execOp, f4, e4]; go_simp) rfl
      · intro a v c
        have e41 : a.eval (.tmp 41) = SV b := c.dep 0 _ (by kernel_rfl) rfl
        have f41 := (eval_opt a 41).trans e41
        exact gvalS (.int .u8 (y0)) (by simp only [execOp, f41, e41]; go_simp) rfl
      · intro a v c
        have e42 : a.eval (.tmp 42) = .int .u8 (y0) := c.dep 1 _ (by kernel_rfl) rfl
        have f42 := (eval_opt a 42).trans e42
        exact gvalS (.int .i64 (y0)) (by simp only [execOp, f42, e42]; go_simp) rfl
      · intro a v c
        have e43 : a.eval (.tmp 43) = .int .i64 (y0) := c.dep 2 _ (by kernel_rfl) rfl
        have f43 := (eval_opt a 43).trans e43
        exact gvalS (.int .i64 (256 * y0)) (by simp only [execOp, f43, e43]; go_simp) rfl
      · intro a v c
        have e4 : a.eval (.tmp 4) = SV b := (c.off 4 (by kernel_rfl)).trans rfl
        have f4 := (eval_opt a 4).trans e4
        exact gvalS (SV b) (by simp only [execOp, f4, e4]; go_simp) rfl
      · intro a v c
        have e45 : a.eval (.tmp 45) = SV b := c.dep 4 _ (by kernel_rfl) rfl
        have f45 := (eval_opt a 45).trans e45
        exact gvalS (.int .u8 (y1)) (by simp only [execOp, f45, e45]; go_simp) rfl
      · intro a v c
        have e46 : a.eval (.tmp 46) = .int .u8 (y1) := c.dep 5 _ (by kernel_rfl) rfl
        have f46 := (eval_opt a 46).trans e46
        exact gvalS (.int .i64 (y1)) (by simp only [execOp, f46, e46]; go_simp) rfl
      · intro a v c
        have e44 : a.eval (.tmp 44) = .int .i64 (256 * y0) := c.dep 3 _ (by kernel_rfl) rfl
        have e47 : a.eval (.tmp 47) = .int .i64 (y1) := c.dep 6 _ (by kernel_rfl) rfl
        have f44 := (eval_opt a 44).trans e44
        have f47 := (eval_opt a 47).trans e47
        exact gvalS (.int .i64 (p1)) (by simp only [execOp, f44, f47, e44, e47]; go_simp) rfl
      · intro a v c
        have e48 : a.eval (.tmp 48) = .int .i64 (p1) := c.dep 7 _ (by kernel_rfl) rfl
        have f48 := (eval_opt a 48).trans e48
        exact gvalS (.int .u16 (p1)) (by simp only [execOp, f48, e48]; go_simp) rfl
      · intro a v c
        have e5 : a.eval (.tmp 5) = .pointer (some ⟨w2.heap.size, 0, none⟩) := (c.off 5 (by kernel_rfl)).trans rfl
        have f5 := (eval_opt a 5).trans e5
        exact gvalS (.pointer (some ⟨w2.heap.size, 1, none⟩)) (by simp only [execOp, f5, e5]; go_simp) rfl
      · intro a v c
        have e50 : a.eval (.tmp 50) = .pointer (some ⟨w2.heap.size, 1, none⟩) := c.dep 9 _ (by kernel_rfl) rfl
        have e49 : a.eval (.tmp 49) = .int .u16 (p1) := c.dep 8 _ (by kernel_rfl) rfl
        exact gpartS [1] (w2.heap.size, #[.int .u16 k0, .int .u16 p1, .int .u16 0, .int .u16 0], 48) (w2.heap.size) 1 (.int .u16 p1) #[.int .u16 p1] 46 (.tmp 50) (.tmp 49) rfl e50 e49 rfl (c.room (w2.heap.size, #[.int .u16 k0, .int .u16 p1, .int .u16 0, .int .u16 0], 48) (by simp)) rfl (by simp) (by kernel_rfl) (by simp [Value.oneCell']) rfl (by intro q hq c hcq; simp only [List.mem_cons, List.not_mem_nil, or_false] at hq; rcases hq with rfl <;> (have hcq : some _ = some c := hcq; cases hcq; exact ⟨rfl, by simp, by simp⟩)) (by omega) (by omega) (by intro f m; simp only [List.mem_cons, List.not_mem_nil, or_false] at m; rcases m with rfl | rfl <;> ((show _ ≠ _) <;> (first | omega | (simp; omega)))) (fun _ h => absurd h (by simp)) (by intro c m e l1 l2; simp only [List.mem_cons, List.not_mem_nil, or_false] at m; rcases m with rfl | rfl | rfl | rfl <;> (first | rfl | (simp; done) | (exfalso; simp at l1; done) | (exfalso; simp at l2; done) | (exfalso; simp only at l1 l2; simp at l2; omega) | (exfalso; omega)))
    intro a v hb hF hRm hCl hd ho hs hf
    have e41 : a.eval (.tmp 41) = SV b := hd 0 _ rfl
    have e42 : a.eval (.tmp 42) = .int .u8 (y0) := hd 1 _ rfl
    have e43 : a.eval (.tmp 43) = .int .i64 (y0) := hd 2 _ rfl
    have e44 : a.eval (.tmp 44) = .int .i64 (256 * y0) := hd 3 _ rfl
    have e45 : a.eval (.tmp 45) = SV b := hd 4 _ rfl
    have e46 : a.eval (.tmp 46) = .int .u8 (y1) := hd 5 _ rfl
    have e47 : a.eval (.tmp 47) = .int .i64 (y1) := hd 6 _ rfl
    have e48 : a.eval (.tmp 48) = .int .i64 (p1) := hd 7 _ rfl
    have e49 : a.eval (.tmp 49) = .int .u16 (p1) := hd 8 _ rfl
    have e50 : a.eval (.tmp 50) = .pointer (some ⟨w2.heap.size, 1, none⟩) := hd 9 _ rfl
    have RG : Blk v (w.heap.size) #[.int .u16 0, .int .u16 0, .int .u16 0, .int .u16 0] 48 := hF (w.heap.size, #[.int .u16 0, .int .u16 0, .int .u16 0, .int .u16 0], 48) (by simp)
    have AG : Blk v (w1.heap.size) #[.int .u8 h.tos, .int .u16 h.id, .int .u8 h.fl, .int .u16 h.off, .int .u8 h.ttl, .int .u8 h.pr, .int .u32 h.src, .int .u32 h.dst, SV h.o] 121 := hF (w1.heap.size, #[.int .u8 h.tos, .int .u16 h.id, .int .u8 h.fl, .int .u16 h.off, .int .u8 h.ttl, .int .u8 h.pr, .int .u32 h.src, .int .u32 h.dst, SV h.o], 121) (by simp)
    have XG : Blk v (w2.heap.size) #[.int .u16 k0, .int .u16 p1, .int .u16 0, .int .u16 0] 48 := by
      have d0 : World.cell? v ⟨w2.heap.size, 0, none⟩ = some (.int .u16 k0) := hCl (w2.heap.size, 0, .int .u16 k0) (by simp) (by show World.cell? _ _ = _; rw [cX]; rfl)
      have d1 : World.cell? v ⟨w2.heap.size, 1, none⟩ = some (.int .u16 p1) := hd 10 _ rfl 1 (by simp) _ rfl
      have d2 : World.cell? v ⟨w2.heap.size, 2, none⟩ = some (.int .u16 0) := hCl (w2.heap.size, 2, .int .u16 0) (by simp) (by show World.cell? _ _ = _; rw [cX]; rfl)
      have d3 : World.cell? v ⟨w2.heap.size, 3, none⟩ = some (.int .u16 0) := hCl (w2.heap.size, 3, .int .u16 0) (by simp) (by show World.cell? _ _ = _; rw [cX]; rfl)
      exact Fct.of_cells (f := (w2.heap.size, #[.int .u16 k0, .int .u16 p1, .int .u16 0, .int .u16 0], 48)) (hRm _ (by simp)) (fun j hj => by match j, hj with | 0, _ => exact d0 | 1, _ => exact d1 | 2, _ => exact d2 | 3, _ => exact d3 | j + 4, h => exact absurd h (by show ¬ j + 4 < 4; omega))
    have gG := g3.trans hb
    rw [frame_eta a 85 hs, hf]
    simp only [List.range, List.range.loop, List.map_cons, List.map_nil, e41, e42, e43, e44, e45, e46, e47, e48, e49, e50, ho 0 (by kernel_rfl), ho 1 (by kernel_rfl), ho 2 (by kernel_rfl), ho 3 (by kernel_rfl), ho 4 (by kernel_rfl), ho 5 (by kernel_rfl), ho 6 (by kernel_rfl), ho 7 (by kernel_rfl), ho 8 (by kernel_rfl), ho 9 (by kernel_rfl), ho 10 (by kernel_rfl), ho 11 (by kernel_rfl), ho 12 (by kernel_rfl), ho 13 (by kernel_rfl), ho 14 (by kernel_rfl), ho 15 (by kernel_rfl), ho 16 (by kernel_rfl), ho 17 (by kernel_rfl), ho 18 (by kernel_rfl), ho 19 (by kernel_rfl), ho 20 (by kernel_rfl), ho 21 (by kernel_rfl), ho 22 (by kernel_rfl), ho 23 (by kernel_rfl), ho 24 (by kernel_rfl), ho 25 (by kernel_rfl), ho 26 (by kernel_rfl), ho 27 (by kernel_rfl), ho 28 (by kernel_rfl), ho 29 (by kernel_rfl), ho 30 (by kernel_rfl), ho 31 (by kernel_rfl), ho 32 (by kernel_rfl), ho 33 (by kernel_rfl), ho 34 (by kernel_rfl), ho 35 (by kernel_rfl), ho 36 (by kernel_rfl), ho 37 (by kernel_rfl), ho 38 (by kernel_rfl), ho 39 (by kernel_rfl), ho 40 (by kernel_rfl), ho 51 (by kernel_rfl), ho 52 (by kernel_rfl), ho 53 (by kernel_rfl), ho 54 (by kernel_rfl), ho 55 (by kernel_rfl), ho 56 (by kernel_rfl), ho 57 (by kernel_rfl), ho 58 (by kernel_rfl), ho 59 (by kernel_rfl), ho 60 (by kernel_rfl), ho 61 (by kernel_rfl), ho 62 (by kernel_rfl), ho 63 (by kernel_rfl), ho 64 (by kernel_rfl), ho 65 (by kernel_rfl), ho 66 (by kernel_rfl), ho 67 (by kernel_rfl), ho 68 (by kernel_rfl), ho 69 (by kernel_rfl), ho 70 (by kernel_rfl), ho 71 (by kernel_rfl), ho 72 (by kernel_rfl), ho 73 (by kernel_rfl), ho 74 (by kernel_rfl), ho 75 (by kernel_rfl), ho 76 (by kernel_rfl), ho 77 (by kernel_rfl), ho 78 (by kernel_rfl), ho 79 (by kernel_rfl), ho 80 (by kernel_rfl), ho 81 (by kernel_rfl), ho 82 (by kernel_rfl), ho 83 (by kernel_rfl), ho 84 (by kernel_rfl)]
    clear hd hF hRm hCl ho hf hs hb e41 e42 e43 e44 e45 e46 e47 e48 e49 e50
    clear a
    replace cR := RG.cell; replace fR := RG.frozen; replace zR := RG.size
    replace cA := AG.cell; replace fA := AG.frozen; replace zA := AG.size
    replace cX := XG.cell; replace fX := XG.frozen; replace zX := XG.size
    go_simp
    go_wp2_with fail
    go_meet
    exact ⟨rfl, gG, RG, AG, XG⟩
  case rest =>
    obtain ⟨rfl, g10, R10, A10, X10⟩ := hcut
    clear cA fA zA cR fR zR cX fX zX
    have cR := R10.cell; have fR := R10.frozen; have zR := R10.size; have cA := A10.cell; have fA := A10.frozen; have zA := A10.size; have cX := X10.cell; have fX := X10.frozen; have zX := X10.size; have hz10 := g10.size
    go_upto_region 6 with (fail)
    go_cut [59] (fun s59 wx => s59 = .int .u16 p2 ∧ Below w.heap.size w wx ∧ Blk wx (w.heap.size) #[.int .u16 0, .int .u16 0, .int .u16 0, .int .u16 0] 48 ∧ Blk wx (w1.heap.size) #[.int .u8 h.tos, .int .u16 h.id, .int .u8 h.fl, .int .u16 h.off, .int .u8 h.ttl, .int .u8 h.pr, .int .u32 h.src, .int .u32 h.dst, SV h.o] 121 ∧ Blk wx (w2.heap.size) #[.int .u16 k0, .int .u16 p1, .int .u16 p2, .int .u16 0] 48)
    case first =>
      refine wp_region_guarS (w.heap.size) (w2.heap.size + 1) [(w.heap.size, #[.int .u16 0, .int .u16 0, .int .u16 0, .int .u16 0], 48), (w1.heap.size, #[.int .u8 h.tos, .int .u16 h.id, .int .u8 h.fl, .int .u16 h.off, .int .u8 h.ttl, .int .u8 h.pr, .int .u32 h.src, .int .u32 h.dst, SV h.o], 121)] [] [(w2.heap.size, #[.int .u16 k0, .int .u16 p1, .int .u16 p2, .int .u16 0], 48)] [(w2.heap.size, 0, .int .u16 k0), (w2.heap.size, 1, .int .u16 p1), (w2.heap.size, 2, .int .u16 p2), (w2.heap.size, 3, .int .u16 0)] [.val (SV b), .val (.int .u8 (y2)), .val (.int .i64 (y2)), .val (.int .i64 (256 * y2)), .val (SV b), .val (.int .u8 (y3)), .val (.int .i64 (y3)), .val (.int .i64 (p2)), .val (.int .u16 (p2)), .val (.pointer (some ⟨w2.heap.size, 2, none⟩)), .sets [2]] (by kernel_rfl) (by kernel_rfl) (by omega) (by omega) (by intro f m; simp only [List.mem_cons, List.not_mem_nil, or_false, List.append_nil, List.nil_append, List.cons_append] at m; rcases m with rfl | rfl <;> ((show Blk _ _ _ _) <;> (repeat' (first | (with_reducible (first | assumption | exact Blk.alloc_new _ _ _ (by first | rfl | (simp; done) | omega) | apply Blk.drewN | apply Blk.drew | apply Blk.alloc_old | apply Blk.set_same | apply Blk.set_other)) | (show (_ : Nat) ≠ _; first | omega | (simp; done) | (simp; omega)) | ((simp only [List.setIfInBounds_toArray, List.set_cons_succ, List.set_cons_zero]); (with_reducible exact rfl)) | (with_reducible exact rfl) | (show (_ : Array Value) = _; exact rfl))))) (by intro f m; simp only [List.mem_cons, List.not_mem_nil, or_false, List.append_nil, List.nil_append, List.cons_append] at m; rcases m with rfl <;> (first | (exact ⟨#[.int .u16 k0, .int .u16 p1, .int .u16 0, .int .u16 0], rfl, by (repeat' (first | (with_reducible (first | assumption | exact Blk.alloc_new _ _ _ (by first | rfl | (simp; done) | omega) | apply Blk.drewN | apply Blk.drew | apply Blk.alloc_old | apply Blk.set_same | apply Blk.set_other)) | (show (_ : Nat) ≠ _; first | omega | (simp; done) | (simp; omega)) | ((simp only [List.setIfInBounds_toArray, List.set_cons_succ, List.set_cons_zero]); (with_reducible exact rfl)) | (with_reducible exact rfl) | (show (_ : Array Value) = _; exact rfl)))⟩))) ?_ ?_
      · refine ⟨?_, ?_, ?_, ?_, ?_, ?_, ?_, ?_, ?_, ?_, ?_, trivial⟩
        · intro a v c
          have e4 : a.eval (.tmp 4) = SV b := (c.off 4 (by kernel_rfl)).trans rfl
          have f4 := (eval_opt a 4).trans e4
          exact gvalS (SV b) (by simp only [execOp, f4, e4]; go_simp) rfl
        · intro a v c
          have e51 : a.eval (.tmp 51) = SV b := c.dep 0 _ (by kernel_rfl) rfl
          have f51 := (eval_opt a 51).trans e51
          exact gvalS (.int .u8 (y2)) (by simp only [execOp, f51, e51]; go_simp) rfl
        · intro a v c
          have e52 : a.eval (.tmp 52) = .int .u8 (y2) := c.dep 1 _ (by kernel_rfl) rfl
          have f52 := (eval_opt a 52).trans e52
          exact gvalS (.int .i64 (y2)) (by simp only [execOp, f52, e52]; go_simp) rfl
        · intro a v c
          have e53 : a.eval (.tmp 53) = .int .i64 (y2) := c.dep 2 _ (by kernel_rfl) rfl
          have f53 := (eval_opt a 53).trans e53
          exact gvalS (.int .i64 (256 * y2)) (by simp only [execOp, f53, e53]; go_simp) rfl
        · intro a v c
          have e4 : a.eval (.tmp 4) = SV b := (c.off 4 (by kernel_rfl)).trans rfl
          have f4 := (eval_opt a 4).trans e4
          exact gvalS (SV b) (by simp only [execOp, f4, e4]; go_simp) rfl
        · intro a v c
          have e55 : a.eval (.tmp 55) = SV b := c.dep 4 _ (by kernel_rfl) rfl
          have f55 := (eval_opt a 55).trans e55
          exact gvalS (.int .u8 (y3)) (by simp only [execOp, f55, e55]; go_simp) rfl
        · intro a v c
          have e56 : a.eval (.tmp 56) = .int .u8 (y3) := c.dep 5 _ (by kernel_rfl) rfl
          have f56 := (eval_opt a 56).trans e56
          exact gvalS (.int .i64 (y3)) (by simp only [execOp, f56, e56]; go_simp) rfl
        · intro a v c
          have e54 : a.eval (.tmp 54) = .int .i64 (256 * y2) := c.dep 3 _ (by kernel_rfl) rfl
          have e57 : a.eval (.tmp 57) = .int .i64 (y3) := c.dep 6 _ (by kernel_rfl) rfl
          have f54 := (eval_opt a 54).trans e54
          have f57 := (eval_opt a 57).trans e57
          exact gvalS (.int .i64 (p2)) (by simp only [execOp, f54, f57, e54, e57]; go_simp) rfl
        · intro a v c
          have e58 : a.eval (.tmp 58) = .int .i64 (p2) := c.dep 7 _ (by kernel_rfl) rfl
          have f58 := (eval_opt a 58).trans e58
          exact gvalS (.int .u16 (p2)) (by simp only [execOp, f58, e58]; go_simp) rfl
        · intro a v c
          have e5 : a.eval (.tmp 5) = .pointer (some ⟨w2.heap.size, 0, none⟩) := (c.off 5 (by kernel_rfl)).trans rfl
          have f5 := (eval_opt a 5).trans e5
          exact gvalS (.pointer (some ⟨w2.heap.size, 2, none⟩)) (by simp only [execOp, f5, e5]; go_simp) rfl
        · intro a v c
          have e60 : a.eval (.tmp 60) = .pointer (some ⟨w2.heap.size, 2, none⟩) := c.dep 9 _ (by kernel_rfl) rfl
          have e59 : a.eval (.tmp 59) = .int .u16 (p2) := c.dep 8 _ (by kernel_rfl) rfl
          exact gpartS [2] (w2.heap.size, #[.int .u16 k0, .int .u16 p1, .int .u16 p2, .int .u16 0], 48) (w2.heap.size) 2 (.int .u16 p2) #[.int .u16 p2] 46 (.tmp 60) (.tmp 59) rfl e60 e59 rfl (c.room (w2.heap.size, #[.int .u16 k0, .int .u16 p1, .int .u16 p2, .int .u16 0], 48) (by simp)) rfl (by simp) (by kernel_rfl) (by simp [Value.oneCell']) rfl (by intro q hq c hcq; simp only [List.mem_cons, List.not_mem_nil, or_false] at hq; rcases hq with rfl <;> (have hcq : some _ = some c := hcq; cases hcq; exact ⟨rfl, by simp, by simp⟩)) (by omega) (by omega) (by intro f m; simp only [List.mem_cons, List.not_mem_nil, or_false] at m; rcases m with rfl | rfl <;> ((show _ ≠ _) <;> (first | omega | (simp; omega)))) (fun _ h => absurd h (by simp)) (by intro c m e l1 l2; simp only [List.mem_cons, List.not_mem_nil, or_false] at m; rcases m with rfl | rfl | rfl | rfl <;> (first | rfl | (simp; done) | (exfalso; simp at l1; done) | (exfalso; simp at l2; done) | (exfalso; simp only at l1 l2; simp at l2; omega) | (exfalso; omega)))
      intro a v hb hF hRm hCl hd ho hs hf
      have e51 : a.eval (.tmp 51) = SV b := hd 0 _ rfl
      have e52 : a.eval (.tmp 52) = .int .u8 (y2) := hd 1 _ rfl
      have e53 : a.eval (.tmp 53) = .int .i64 (y2) := hd 2 _ rfl
      have e54 : a.eval (.tmp 54) = .int .i64 (256 * y2) := hd 3 _ rfl
      have e55 : a.eval (.tmp 55) = SV b := hd 4 _ rfl
      have e56 : a.eval (.tmp 56) = .int .u8 (y3) := hd 5 _ rfl
      have e57 : a.eval (.tmp 57) = .int .i64 (y3) := hd 6 _ rfl
      have e58 : a.eval (.tmp 58) = .int .i64 (p2) := hd 7 _ rfl
      have e59 : a.eval (.tmp 59) = .int .u16 (p2) := hd 8 _ rfl
      have e60 : a.eval (.tmp 60) = .pointer (some ⟨w2.heap.size, 2, none⟩) := hd 9 _ rfl
      have RG : Blk v (w.heap.size) #[.int .u16 0, .int .u16 0, .int .u16 0, .int .u16 0] 48 := hF (w.heap.size, #[.int .u16 0, .int .u16 0, .int .u16 0, .int .u16 0], 48) (by simp)
      have AG : Blk v (w1.heap.size) #[.int .u8 h.tos, .int .u16 h.id, .int .u8 h.fl, .int .u16 h.off, .int .u8 h.ttl, .int .u8 h.pr, .int .u32 h.src, .int .u32 h.dst, SV h.o] 121 := hF (w1.heap.size, #[.int .u8 h.tos, .int .u16 h.id, .int .u8 h.fl, .int .u16 h.off, .int .u8 h.ttl, .int .u8 h.pr, .int .u32 h.src, .int .u32 h.dst, SV h.o], 121) (by simp)
      have XG : Blk v (w2.heap.size) #[.int .u16 k0, .int .u16 p1, .int .u16 p2, .int .u16 0] 48 := by
        have d0 : World.cell? v ⟨w2.heap.size, 0, none⟩ = some (.int .u16 k0) := hCl (w2.heap.size, 0, .int .u16 k0) (by simp) (by show World.cell? _ _ = _; rw [cX]; rfl)
        have d1 : World.cell? v ⟨w2.heap.size, 1, none⟩ = some (.int .u16 p1) := hCl (w2.heap.size, 1, .int .u16 p1) (by simp) (by show World.cell? _ _ = _; rw [cX]; rfl)
        have d2 : World.cell? v ⟨w2.heap.size, 2, none⟩ = some (.int .u16 p2) := hd 10 _ rfl 2 (by simp) _ rfl
        have d3 : World.cell? v ⟨w2.heap.size, 3, none⟩ = some (.int .u16 0) := hCl (w2.heap.size, 3, .int .u16 0) (by simp) (by show World.cell? _ _ = _; rw [cX]; rfl)
        exact Fct.of_cells (f := (w2.heap.size, #[.int .u16 k0, .int .u16 p1, .int .u16 p2, .int .u16 0], 48)) (hRm _ (by simp)) (fun j hj => by match j, hj with | 0, _ => exact d0 | 1, _ => exact d1 | 2, _ => exact d2 | 3, _ => exact d3 | j + 4, h => exact absurd h (by show ¬ j + 4 < 4; omega))
      have gG := g10.trans hb
      rw [frame_eta a 85 hs, hf]
      simp only [List.range, List.range.loop, List.map_cons, List.map_nil, e51, e52, e53, e54, e55, e56, e57, e58, e59, e60, ho 0 (by kernel_rfl), ho 1 (by kernel_rfl), ho 2 (by kernel_rfl), ho 3 (by kernel_rfl), ho 4 (by kernel_rfl), ho 5 (by kernel_rfl), ho 6 (by kernel_rfl), ho 7 (by kernel_rfl), ho 8 (by kernel_rfl), ho 9 (by kernel_rfl), ho 10 (by kernel_rfl), ho 11 (by kernel_rfl), ho 12 (by kernel_rfl), ho 13 (by kernel_rfl), ho 14 (by kernel_rfl), ho 15 (by kernel_rfl), ho 16 (by kernel_rfl), ho 17 (by kernel_rfl), ho 18 (by kernel_rfl), ho 19 (by kernel_rfl), ho 20 (by kernel_rfl), ho 21 (by kernel_rfl), ho 22 (by kernel_rfl), ho 23 (by kernel_rfl), ho 24 (by kernel_rfl), ho 25 (by kernel_rfl), ho 26 (by kernel_rfl), ho 27 (by kernel_rfl), ho 28 (by kernel_rfl), ho 29 (by kernel_rfl), ho 30 (by kernel_rfl), ho 31 (by kernel_rfl), ho 32 (by kernel_rfl), ho 33 (by kernel_rfl), ho 34 (by kernel_rfl), ho 35 (by kernel_rfl), ho 36 (by kernel_rfl), ho 37 (by kernel_rfl), ho 38 (by kernel_rfl), ho 39 (by kernel_rfl), ho 40 (by kernel_rfl), ho 41 (by kernel_rfl), ho 42 (by kernel_rfl), ho 43 (by kernel_rfl), ho 44 (by kernel_rfl), ho 45 (by kernel_rfl), ho 46 (by kernel_rfl), ho 47 (by kernel_rfl), ho 48 (by kernel_rfl), ho 49 (by kernel_rfl), ho 50 (by kernel_rfl), ho 61 (by kernel_rfl), ho 62 (by kernel_rfl), ho 63 (by kernel_rfl), ho 64 (by kernel_rfl), ho 65 (by kernel_rfl), ho 66 (by kernel_rfl), ho 67 (by kernel_rfl), ho 68 (by kernel_rfl), ho 69 (by kernel_rfl), ho 70 (by kernel_rfl), ho 71 (by kernel_rfl), ho 72 (by kernel_rfl), ho 73 (by kernel_rfl), ho 74 (by kernel_rfl), ho 75 (by kernel_rfl), ho 76 (by kernel_rfl), ho 77 (by kernel_rfl), ho 78 (by kernel_rfl), ho 79 (by kernel_rfl), ho 80 (by kernel_rfl), ho 81 (by kernel_rfl), ho 82 (by kernel_rfl), ho 83 (by kernel_rfl), ho 84 (by kernel_rfl)]
      clear hd hF hRm hCl ho hf hs hb e51 e52 e53 e54 e55 e56 e57 e58 e59 e60
      clear a
      replace cR := RG.cell; replace fR := RG.frozen; replace zR := RG.size
      replace cA := AG.cell; replace fA := AG.frozen; replace zA := AG.size
      replace cX := XG.cell; replace fX := XG.frozen; replace zX := XG.size
      go_simp
      go_wp2_with fail
      go_meet
      exact ⟨rfl, gG, RG, AG, XG⟩
    case rest =>
      obtain ⟨rfl, g11, R11, A11, X11⟩ := hcut
      clear cA fA zA cR fR zR cX fX zX
      have cR := R11.cell; have fR := R11.frozen; have zR := R11.size; have cA := A11.cell; have fA := A11.frozen; have zA := A11.size; have cX := X11.cell; have fX := X11.frozen; have zX := X11.size; have hz11 := g11.size
      go_wp2_with fail
      refine (rxor (h.src / 65536) (h.src % 65536) x1 _ (by omega) (by omega) HX1.out).mono ?_
      rintro e w5 ⟨rfl, hb5⟩
      have R5 : Blk w5 (w.heap.size) #[.int .u16 0, .int .u16 0, .int .u16 0, .int .u16 0] 48 := Blk.below (by (repeat' (first | (with_reducible (first | assumption | exact Blk.alloc_new _ _ _ (by first | rfl | (simp; done) | omega) | apply Blk.drewN | apply Blk.drew | apply Blk.alloc_old | apply Blk.set_same | apply Blk.set_other)) | (show (_ : Nat) ≠ _; first | omega | (simp; done) | (simp; omega)) | ((simp only [List.setIfInBounds_toArray, List.set_cons_succ, List.set_cons_zero]); (with_reducible exact rfl)) | (with_reducible exact rfl) | (show (_ : Array Value) = _; exact rfl)))) hb5 (by first | (simp; done) | omega | (simp; omega))
      have A5 : Blk w5 (w1.heap.size) #[.int .u8 h.tos, .int .u16 h.id, .int .u8 h.fl, .int .u16 h.off, .int .u8 h.ttl, .int .u8 h.pr, .int .u32 h.src, .int .u32 h.dst, SV h.o] 121 := Blk.below (by (repeat' (first | (with_reducible (first | assumption | exact Blk.alloc_new _ _ _ (by first | rfl | (simp; done) | omega) | apply Blk.drewN | apply Blk.drew | apply Blk.alloc_old | apply Blk.set_same | apply Blk.set_other)) | (show (_ : Nat) ≠ _; first | omega | (simp; done) | (simp; omega)) | ((simp only [List.setIfInBounds_toArray, List.set_cons_succ, List.set_cons_zero]); (with_reducible exact rfl)) | (with_reducible exact rfl) | (show (_ : Array Value) = _; exact rfl)))) hb5 (by first | (simp; done) | omega | (simp; omega))
      have X5 : Blk w5 (w2.heap.size) #[.int .u16 k0, .int .u16 p1, .int .u16 p2, .int .u16 0] 48 := Blk.below (by (repeat' (first | (with_reducible (first | assumption | exact Blk.alloc_new _ _ _ (by first | rfl | (simp; done) | omega) | apply Blk.drewN | apply Blk.drew | apply Blk.alloc_old | apply Blk.set_same | apply Blk.set_other)) | (show (_ : Nat) ≠ _; first | omega | (simp; done) | (simp; omega)) | ((simp only [List.setIfInBounds_toArray, List.set_cons_succ, List.set_cons_zero]); (with_reducible exact rfl)) | (with_reducible exact rfl) | (show (_ : Array Value) = _; exact rfl)))) hb5 (by first | (simp; done) | omega | (simp; omega))
      have g5 : Below w.heap.size w w5 := by refine Below.trans ?_ (hb5.mono ?_) <;> (repeat' (first | (with_reducible (first | exact Below.refl _ _ | assumption | refine below_drewN ?_ _ | refine Below.drew ?_ | refine Below.alloc ?_ ?_ _ | refine Below.setCell ?_ ?_ _)) | go_size))
      have hz5 := hb5.size
      (try simp at hz5)
      clear hb5
      replace cR := R5.cell
      replace fR := R5.frozen
      replace zR := R5.size
      replace cA := A5.cell
      replace fA := A5.frozen
      replace zA := A5.size
      replace cX := X5.cell
      replace fX := X5.frozen
      replace zX := X5.size
      go_wp2_with fail
      refine (rxor (h.dst / 65536) (h.dst % 65536) x2 _ (by omega) (by omega) HX2.out).mono ?_
      rintro e w6 ⟨rfl, hb6⟩
      have R6 : Blk w6 (w.heap.size) #[.int .u16 0, .int .u16 0, .int .u16 0, .int .u16 0] 48 := Blk.below (by (repeat' (first | (with_reducible (first | assumption | exact Blk.alloc_new _ _ _ (by first | rfl | (simp; done) | omega) | apply Blk.drewN | apply Blk.drew | apply Blk.alloc_old | apply Blk.set_same | apply Blk.set_other)) | (show (_ : Nat) ≠ _; first | omega | (simp; done) | (simp; omega)) | ((simp only [List.setIfInBounds_toArray, List.set_cons_succ, List.set_cons_zero]); (with_reducible exact rfl)) | (with_reducible exact rfl) | (show (_ : Array Value) = _; exact rfl)))) hb6 (by first | (simp; done) | omega | (simp; omega))
      have A6 : Blk w6 (w1.heap.size) #[.int .u8 h.tos, .int .u16 h.id, .int .u8 h.fl, .int .u16 h.off, .int .u8 h.ttl, .int .u8 h.pr, .int .u32 h.src, .int .u32 h.dst, SV h.o] 121 := Blk.below (by (repeat' (first | (with_reducible (first | assumption | exact Blk.alloc_new _ _ _ (by first | rfl | (simp; done) | omega) | apply Blk.drewN | apply Blk.drew | apply Blk.alloc_old | apply Blk.set_same | apply Blk.set_other)) | (show (_ : Nat) ≠ _; first | omega | (simp; done) | (simp; omega)) | ((simp only [List.setIfInBounds_toArray, List.set_cons_succ, List.set_cons_zero]); (with_reducible exact rfl)) | (with_reducible exact rfl) | (show (_ : Array Value) = _; exact rfl)))) hb6 (by first | (simp; done) | omega | (simp; omega))
      have X6 : Blk w6 (w2.heap.size) #[.int .u16 k0, .int .u16 p1, .int .u16 p2, .int .u16 0] 48 := Blk.below (by (repeat' (first | (with_reducible (first | assumption | exact Blk.alloc_new _ _ _ (by first | rfl | (simp; done) | omega) | apply Blk.drewN | apply Blk.drew | apply Blk.alloc_old | apply Blk.set_same | apply Blk.set_other)) | (show (_ : Nat) ≠ _; first | omega | (simp; done) | (simp; omega)) | ((simp only [List.setIfInBounds_toArray, List.set_cons_succ, List.set_cons_zero]); (with_reducible exact rfl)) | (with_reducible exact rfl) | (show (_ : Array Value) = _; exact rfl)))) hb6 (by first | (simp; done) | omega | (simp; omega))
      have g6 : Below w.heap.size w w6 := by refine Below.trans ?_ (hb6.mono ?_) <;> (repeat' (first | (with_reducible (first | exact Below.refl _ _ | assumption | refine below_drewN ?_ _ | refine Below.drew ?_ | refine Below.alloc ?_ ?_ _ | refine Below.setCell ?_ ?_ _)) | go_size))
      have hz6 := hb6.size
      (try simp at hz6)
      clear hb6
      replace cR := R6.cell
      replace fR := R6.frozen
      replace zR := R6.size
      replace cA := A6.cell
      replace fA := A6.frozen
      replace zA := A6.size
      replace cX := X6.cell
      replace fX := X6.frozen
      replace zX := X6.size
      go_wp2_with fail
      refine (rxor x1 x2 k3 _ hr1 hr2 HK3.out).mono ?_
      rintro e w7 ⟨rfl, hb7⟩
      have R7 : Blk w7 (w.heap.size) #[.int .u16 0, .int .u16 0, .int .u16 0, .int .u16 0] 48 := Blk.below (by (repeat' (first | (with_reducible (first | assumption | exact Blk.alloc_new _ _ _ (by first | rfl | (simp; done) | omega) | apply Blk.drewN | apply Blk.drew | apply Blk.alloc_old | apply Blk.set_same | apply Blk.set_other)) | (show (_ : Nat) ≠ _; first | omega | (simp; done) | (simp; omega)) | ((simp only [List.setIfInBounds_toArray, List.set_cons_succ, List.set_cons_zero]); (with_reducible exact rfl)) | (with_reducible exact rfl) | (show (_ : Array Value) = _; exact rfl)))) hb7 (by first | (simp; done) | omega | (simp; omega))
      have A7 : Blk w7 (w1.heap.size) #[.int .u8 h.tos, .int .u16 h.id, .int .u8 h.fl, .int .u16 h.off, .int .u8 h.ttl, .int .u8 h.pr, .int .u32 h.src, .int .u32 h.dst, SV h.o] 121 := Blk.below (by (repeat' (first | (with_reducible (first | assumption | exact Blk.alloc_new _ _ _ (by first | rfl | (simp; done) | omega) | apply Blk.drewN | apply Blk.drew | apply Blk.alloc_old | apply Blk.set_same | apply Blk.set_other)) | (show (_ : Nat) ≠ _; first | omega | (simp; done) | (simp; omega)) | ((simp only [List.setIfInBounds_toArray, List.set_cons_succ, List.set_cons_zero]); (with_reducible exact rfl)) | (with_reducible exact rfl) | (show (_ : Array Value) = _; exact rfl)))) hb7 (by first | (simp; done) | omega | (simp; omega))
      have X7 : Blk w7 (w2.heap.size) #[.int .u16 k0, .int .u16 p1, .int .u16 p2, .int .u16 0] 48 := Blk.below (by (repeat' (first | (with_reducible (first | assumption | exact Blk.alloc_new _ _ _ (by first | rfl | (simp; done) | omega) | apply Blk.drewN | apply Blk.drew | apply Blk.alloc_old | apply Blk.set_same | apply Blk.set_other)) | (show (_ : Nat) ≠ _; first | omega | (simp; done) | (simp; omega)) | ((simp only [List.setIfInBounds_toArray, List.set_cons_succ, List.set_cons_zero]); (with_reducible exact rfl)) | (with_reducible exact rfl) | (show (_ : Array Value) = _; exact rfl)))) hb7 (by first | (simp; done) | omega | (simp; omega))
      have g7 : Below w.heap.size w w7 := by refine Below.trans ?_ (hb7.mono ?_) <;> (repeat' (first | (with_reducible (first | exact Below.refl _ _ | assumption | refine below_drewN ?_ _ | refine Below.drew ?_ | refine Below.alloc ?_ ?_ _ | refine Below.setCell ?_ ?_ _)) | go_size))
      have hz7 := hb7.size
      (try simp at hz7)
      clear hb7
      replace cR := R7.cell
      replace fR := R7.frozen
      replace zR := R7.size
      replace cA := A7.cell
      replace fA := A7.frozen
      replace zA := A7.size
      replace cX := X7.cell
      replace fX := X7.frozen
      replace zX := X7.size
      go_wp2_with (first | (refine store_blk 48 (.tmp 2) (.tmp 84) (w.heap.size) #[.int .u16 0, .int .u16 0, .int .u16 0, .int .u16 0] #[.int .u16 k0, .int .u16 p1, .int .u16 p2, .int .u16 k3] 48 (by rfl) (by rfl) (by rfl) (by rfl) (by (repeat' (first | (with_reducible (first | assumption | exact Blk.alloc_new _ _ _ (by first | rfl | (simp; done) | omega) | apply Blk.drewN | apply Blk.drew | apply Blk.alloc_old | apply Blk.set_same | apply Blk.set_other)) | (show (_ : Nat) ≠ _; first | omega | (simp; done) | (simp; omega)) | ((simp only [List.setIfInBounds_toArray, List.set_cons_succ, List.set_cons_zero]); (with_reducible exact rfl)) | (with_reducible exact rfl) | (show (_ : Array Value) = _; exact rfl)))) rfl (by kernel_rfl) (by simp [Value.oneCell']) ?_; intro v Bv kB kO hs; have gv : Below w.heap.size w v := kB _ _ (by first | (simp; done) | omega | (simp; omega)) (by (repeat' (first | (with_reducible (first | exact Below.refl _ _ | assumption | refine below_drewN ?_ _ | refine Below.drew ?_ | refine Below.alloc ?_ ?_ _ | refine Below.setCell ?_ ?_ _)) | go_size))); clear kB kO hs))
      refine bodyPost_ret (v := .agg #[.int .u16 k0, .int .u16 p1, .int .u16 p2, .int .u16 k3]) ?_ ?_ ?_
      · exact results_blk (w.heap.size) #[.int .u16 k0, .int .u16 p1, .int .u16 p2, .int .u16 k3] 48 _ _ _ Try.results30 (by rfl) Bv Try.underlying48 rfl (by kernel_rfl)
      · rfl
      · exact ⟨rfl, gv⟩
set_option maxRecDepth 100000 in
set_option maxHeartbeats 4000000 in
theorem rkey_b17 (l b : List Int) (h : HD) (k0 x1 x2 k3 : Int) (w : World) (ok : h.ok) (hbl : b.length ≤ 4611686018427387904) (hk0 : h.pr * 256 + h.tos / 4 = k0) (hx1 : xN (h.src / 65536) (h.src % 65536) = x1) (hx2 : xN (h.dst / 65536) (h.dst % 65536) = x2) (hk3 : xN x1 x2 = k3) (h1 : h.pr = 17) (h2 : h.off ≠ 0)
    (KH : Hid (∀ v, Calls Try.prog 51 #[SV l] v fun e w' => e = .returned (.agg #[.int .u8 h.tos, .int .u16 h.id, .int .u8 h.fl, .int .u16 h.off, .int .u8 h.ttl, .int .u8 h.pr, .int .u32 h.src, .int .u32 h.dst, SV h.o]) ∧ Below v.heap.size v w'))
    (KY : Hid (∀ v, Calls Try.prog 52 #[SV l] v fun e w' => e = .returned (SV b) ∧ Below v.heap.size v w')) :
    Calls Try.prog 30 #[SV l] w fun e w' => e = .returned (.agg #[.int .u16 k0, .int .u16 0, .int .u16 0, .int .u16 k3]) ∧ Below w.heap.size w w' := by
  have ks := sv_size
  obtain ⟨o1, o2, o3, o4, o5, o6, o7, o8, o9⟩ := ok
  have hk0r : 0 ≤ k0 ∧ k0 ≤ 65535 := by omega
  have hr1 : 0 ≤ x1 ∧ x1 ≤ 65535 := by rw [← hx1]; exact xN_16 (by omega) (by omega)
  have hr2 : 0 ≤ x2 ∧ x2 ≤ 65535 := by rw [← hx2]; exact xN_16 (by omega) (by omega)
  have hr3 : 0 ≤ k3 ∧ k3 ≤ 65535 := by rw [← hk3]; exact xN_16 hr1 hr2
  have ht0 : h.tos.tdiv 4 = h.tos / 4 := Int.tdiv_eq_ediv_of_nonneg o1.1
  have ht1 : h.src.tdiv 65536 = h.src / 65536 := Int.tdiv_eq_ediv_of_nonneg o7.1
  have ht2 : h.src.tmod 65536 = h.src % 65536 := Int.tmod_eq_emod_of_nonneg o7.1
  have ht3 : h.dst.tdiv 65536 = h.dst / 65536 := Int.tdiv_eq_ediv_of_nonneg o8.1
  have ht4 : h.dst.tmod 65536 = h.dst % 65536 := Int.tmod_eq_emod_of_nonneg o8.1
  have hwk : IntKind.u16.wrap k0 = k0 := by simp [IntKind.wrap, IntKind.bits, IntKind.signed]; omega
  have hw3 : IntKind.u16.wrap k3 = k3 := by simp [IntKind.wrap, IntKind.bits, IntKind.signed]; omega
  have HX1 := hide hx1; have HX2 := hide hx2; have HK3 := hide hk3
  clear hx1 hx2 hk3
  have d6 : (h.pr == 6) = false := by simp; omega
  have d17 : (h.pr == 17) = true := by simp; omega
  have d0 : (h.off == 0) = false := by simp; omega
  clear h1 h2
  go_enter Try.func30, Try.ntmps30
  go_wp2_with fail
  refine (KH.out _).mono ?_
  rintro e w1 ⟨rfl, hb1⟩
  have R1 : Blk w1 (w.heap.size) #[.int .u16 0, .int .u16 0, .int .u16 0, .int .u16 0] 48 := Blk.below (by (repeat' (first | (with_reducible (first | assumption | exact Blk.alloc_new _ _ _ (by first | rfl | (simp; done) | omega) | apply Blk.drewN | apply Blk.drew | apply Blk.alloc_old | apply Blk.set_same | apply Blk.set_other)) | (show (_ : Nat) ≠ _; first | omega | (simp; done) | (simp; omega)) | ((simp only [List.setIfInBounds_toArray, List.set_cons_succ, List.set_cons_zero]); (with_reducible exact rfl)) | (with_reducible exact rfl) | (show (_ : Array Value) = _; exact rfl)))) hb1 (by first | (simp; done) | omega | (simp; omega))
  have g1 : Below w.heap.size w w1 := by refine Below.trans ?_ (hb1.mono ?_) <;> (repeat' (first | (with_reducible (first | exact Below.refl _ _ | assumption | refine below_drewN ?_ _ | refine Below.drew ?_ | refine Below.alloc ?_ ?_ _ | refine Below.setCell ?_ ?_ _)) | go_size))
  have hz1 := hb1.size
  (try simp at hz1)
  clear hb1
  replace cR := R1.cell
  replace fR := R1.frozen
  replace zR := R1.size
  go_wp2_with fail
  refine (KY.out _).mono ?_
  rintro e w2 ⟨rfl, hb2⟩
  have R2 : Blk w2 (w.heap.size) #[.int .u16 0, .int .u16 0, .int .u16 0, .int .u16 0] 48 := Blk.below (by (repeat' (first | (with_reducible (first | assumption | exact Blk.alloc_new _ _ _ (by first | rfl | (simp; done) | omega) | apply Blk.drewN | apply Blk.drew | apply Blk.alloc_old | apply Blk.set_same | apply Blk.set_other)) | (show (_ : Nat) ≠ _; first | omega | (simp; done) | (simp; omega)) | ((simp only [List.setIfInBounds_toArray, List.set_cons_succ, List.set_cons_zero]); (with_reducible exact rfl)) | (with_reducible exact rfl) | (show (_ : Array Value) = _; exact rfl)))) hb2 (by first | (simp; done) | omega | (simp; omega))
  have A2 : Blk w2 (w1.heap.size) #[.int .u8 h.tos, .int .u16 h.id, .int .u8 h.fl, .int .u16 h.off, .int .u8 h.ttl, .int .u8 h.pr, .int .u32 h.src, .int .u32 h.dst, SV h.o] 121 := Blk.below (by (repeat' (first | (with_reducible (first | assumption | exact Blk.alloc_new _ _ _ (by first | rfl | (simp; done) | omega) | apply Blk.drewN | apply Blk.drew | apply Blk.alloc_old | apply Blk.set_same | apply Blk.set_other)) | (show (_ : Nat) ≠ _; first | omega | (simp; done) | (simp; omega)) | ((simp only [List.setIfInBounds_toArray, List.set_cons_succ, List.set_cons_zero]); (with_reducible exact rfl)) | (with_reducible exact rfl) | (show (_ : Array Value) = _; exact rfl)))) hb2 (by first | (simp; done) | omega | (simp; omega))
  have g2 : Below w.heap.size w w2 := by refine Below.trans ?_ (hb2.mono ?_) <;> (repeat' (first | (with_reducible (first | exact Below.refl _ _ | assumption | refine below_drewN ?_ _ | refine Below.drew ?_ | refine Below.alloc ?_ ?_ _ | refine Below.setCell ?_ ?_ _)) | go_size))
  have hz2 := hb2.size
  (try simp at hz2)
  clear hb2
  replace cR := R2.cell
  replace fR := R2.frozen
  replace zR := R2.size
  replace cA := A2.cell
  replace fA := A2.frozen
  replace zA := A2.size
  skip
  go_wp2_with fail
  refine (rxor (h.src / 65536) (h.src % 65536) x1 _ (by omega) (by omega) HX1.out).mono ?_
  rintro e w5 ⟨rfl, hb5⟩
  have R5 : Blk w5 (w.heap.size) #[.int .u16 0, .int .u16 0, .int .u16 0, .int .u16 0] 48 := Blk.below (by (repeat' (first | (with_reducible (first | assumption | exact Blk.alloc_new _ _ _ (by first | rfl | (simp; done) | omega) | apply Blk.drewN | apply Blk.drew | apply Blk.alloc_old | apply Blk.set_same | apply Blk.set_other)) | (show (_ : Nat) ≠ _; first | omega | (simp; done) | (simp; omega)) | ((simp only [List.setIfInBounds_toArray, List.set_cons_succ, List.set_cons_zero]); (with_reducible exact rfl)) | (with_reducible exact rfl) | (show (_ : Array Value) = _; exact rfl)))) hb5 (by first | (simp; done) | omega | (simp; omega))
  have A5 : Blk w5 (w1.heap.size) #[.int .u8 h.tos, .int .u16 h.id, .int .u8 h.fl, .int .u16 h.off, .int .u8 h.ttl, .int .u8 h.pr, .int .u32 h.src, .int .u32 h.dst, SV h.o] 121 := Blk.below (by (repeat' (first | (with_reducible (first | assumption | exact Blk.alloc_new _ _ _ (by first | rfl | (simp; done) | omega) | apply Blk.drewN | apply Blk.drew | apply Blk.alloc_old | apply Blk.set_same | apply Blk.set_other)) | (show (_ : Nat) ≠ _; first | omega | (simp; done) | (simp; omega)) | ((simp only [List.setIfInBounds_toArray, List.set_cons_succ, List.set_cons_zero]); (with_reducible exact rfl)) | (with_reducible exact rfl) | (show (_ : Array Value) = _; exact rfl)))) hb5 (by first | (simp; done) | omega | (simp; omega))
  have X5 : Blk w5 (w2.heap.size) #[.int .u16 k0, .int .u16 0, .int .u16 0, .int .u16 0] 48 := Blk.below (by (repeat' (first | (with_reducible (first | assumption | exact Blk.alloc_new _ _ _ (by first | rfl | (simp; done) | omega) | apply Blk.drewN | apply Blk.drew | apply Blk.alloc_old | apply Blk.set_same | apply Blk.set_other)) | (show (_ : Nat) ≠ _; first | omega | (simp; done) | (simp; omega)) | ((simp only [List.setIfInBounds_toArray, List.set_cons_succ, List.set_cons_zero]); (with_reducible exact rfl)) | (with_reducible exact rfl) | (show (_ : Array Value) = _; exact rfl)))) hb5 (by first | (simp; done) | omega | (simp; omega))
  have g5 : Below w.heap.size w w5 := by refine Below.trans ?_ (hb5.mono ?_) <;> (repeat' (first | (with_reducible (first | exact Below.refl _ _ | assumption | refine below_drewN ?_ _ | refine Below.drew ?_ | refine Below.alloc ?_ ?_ _ | refine Below.setCell ?_ ?_ _)) | go_size))
  have hz5 := hb5.size
  (try simp at hz5)
  clear hb5
  replace cR := R5.cell
  replace fR := R5.frozen
  replace zR := R5.size
  replace cA := A5.cell
  replace fA := A5.frozen
  replace zA := A5.size
  replace cX := X5.cell
  replace fX := X5.frozen
  replace zX := X5.size
  go_wp2_with fail
  refine (rxor (h.dst / 65536) (h.dst % 65536) x2 _ (by omega) (by omega) HX2.out).mono ?_
  rintro e w6 ⟨rfl, hb6⟩
  have R6 : Blk w6 (w.heap.size) #[.int .u16 0, .int .u16 0, .int .u16 0, .int .u16 0] 48 := Blk.below (by (repeat' (first | (with_reducible (first | assumption | exact Blk.alloc_new _ _ _ (by first | rfl | (simp; done) | omega) | apply Blk.drewN | apply Blk.drew | apply Blk.alloc_old | apply Blk.set_same | apply Blk.set_other)) | (show (_ : Nat) ≠ _; first | omega | (simp; done) | (simp; omega)) | ((simp only [List.setIfInBounds_toArray, List.set_cons_succ, List.set_cons_zero]); (with_reducible exact rfl)) | (with_reducible exact rfl) | (show (_ : Array Value) = _; exact rfl)))) hb6 (by first | (simp; done) | omega | (simp; omega))
  have A6 : Blk w6 (w1.heap.size) #[.int .u8 h.tos, .int .u16 h.id, .int .u8 h.fl, .int .u16 h.off, .int .u8 h.ttl, .int .u8 h.pr, .int .u32 h.src, .int .u32 h.dst, SV h.o] 121 := Blk.below (by (repeat' (first | (with_reducible (first | assumption | exact Blk.alloc_new _ _ _ (by first | rfl | (simp; done) | omega) | apply Blk.drewN | apply Blk.drew | apply Blk.alloc_old | apply Blk.set_same | apply Blk.set_other)) | (show (_ : Nat) ≠ _; first | omega | (simp; done) | (simp; omega)) | ((simp only [List.setIfInBounds_toArray, List.set_cons_succ, List.set_cons_zero]); (with_reducible exact rfl)) | (with_reducible exact rfl) | (show (_ : Array Value) = _; exact rfl)))) hb6 (by first | (simp; done) | omega | (simp; omega))
  have X6 : Blk w6 (w2.heap.size) #[.int .u16 k0, .int .u16 0, .int .u16 0, .int .u16 0] 48 := Blk.below (by (repeat' (first | (with_reducible (first | assumption | exact Blk.alloc_new _ _ _ (by first | rfl | (simp; done) | omega) | apply Blk.drewN | apply Blk.drew | apply Blk.alloc_old | apply Blk.set_same | apply Blk.set_other)) | (show (_ : Nat) ≠ _; first | omega | (simp; done) | (simp; omega)) | ((simp only [List.setIfInBounds_toArray, List.set_cons_succ, List.set_cons_zero]); (with_reducible exact rfl)) | (with_reducible exact rfl) | (show (_ : Array Value) = _; exact rfl)))) hb6 (by first | (simp; done) | omega | (simp; omega))
  have g6 : Below w.heap.size w w6 := by refine Below.trans ?_ (hb6.mono ?_) <;> (repeat' (first | (with_reducible (first | exact Below.refl _ _ | assumption | refine below_drewN ?_ _ | refine Below.drew ?_ | refine Below.alloc ?_ ?_ _ | refine Below.setCell ?_ ?_ _)) | go_size))
  have hz6 := hb6.size
  (try simp at hz6)
  clear hb6
  replace cR := R6.cell
  replace fR := R6.frozen
  replace zR := R6.size
  replace cA := A6.cell
  replace fA := A6.frozen
  replace zA := A6.size
  replace cX := X6.cell
  replace fX := X6.frozen
  replace zX := X6.size
  go_wp2_with fail
  refine (rxor x1 x2 k3 _ hr1 hr2 HK3.out).mono ?_
  rintro e w7 ⟨rfl, hb7⟩
  have R7 : Blk w7 (w.heap.size) #[.int .u16 0, .int .u16 0, .int .u16 0, .int .u16 0] 48 := Blk.below (by (repeat' (first | (with_reducible (first | assumption | exact Blk.alloc_new _ _ _ (by first | rfl | (simp; done) | omega) | apply Blk.drewN | apply Blk.drew | apply Blk.alloc_old | apply Blk.set_same | apply Blk.set_other)) | (show (_ : Nat) ≠ _; first | omega | (simp; done) | (simp; omega)) | ((simp only [List.setIfInBounds_toArray, List.set_cons_succ, List.set_cons_zero]); (with_reducible exact rfl)) | (with_reducible exact rfl) | (show (_ : Array Value) = _; exact rfl)))) hb7 (by first | (simp; done) | omega | (simp; omega))
  have A7 : Blk w7 (w1.heap.size) #[.int .u8 h.tos, .int .u16 h.id, .int .u8 h.fl, .int .u16 h.off, .int .u8 h.ttl, .int .u8 h.pr, .int .u32 h.src, .int .u32 h.dst, SV h.o] 121 := Blk.below (by (repeat' (first | (with_reducible (first | assumption | exact Blk.alloc_new _ _ _ (by first | rfl | (simp; done) | omega) | apply Blk.drewN | apply Blk.drew | apply Blk.alloc_old | apply Blk.set_same | apply Blk.set_other)) | (show (_ : Nat) ≠ _; first | omega | (simp; done) | (simp; omega)) | ((simp only [List.setIfInBounds_toArray, List.set_cons_succ, List.set_cons_zero]); (with_reducible exact rfl)) | (with_reducible exact rfl) | (show (_ : Array Value) = _; exact rfl)))) hb7 (by first | (simp; done) | omega | (simp; omega))
  have X7 : Blk w7 (w2.heap.size) #[.int .u16 k0, .int .u16 0, .int .u16 0, .int .u16 0] 48 := Blk.below (by (repeat' (first | (with_reducible (first | assumption | exact Blk.alloc_new _ _ _ (by first | rfl | (simp; done) | omega) | apply Blk.drewN | apply Blk.drew | apply Blk.alloc_old | apply Blk.set_same | apply Blk.set_other)) | (show (_ : Nat) ≠ _; first | omega | (simp; done) | (simp; omega)) | ((simp only [List.setIfInBounds_toArray, List.set_cons_succ, List.set_cons_zero]); (with_reducible exact rfl)) | (with_reducible exact rfl) | (show (_ : Array Value) = _; exact rfl)))) hb7 (by first | (simp; done) | omega | (simp; omega))
  have g7 : Below w.heap.size w w7 := by refine Below.trans ?_ (hb7.mono ?_) <;> (repeat' (first | (with_reducible (first | exact Below.refl _ _ | assumption | refine below_drewN ?_ _ | refine Below.drew ?_ | refine Below.alloc ?_ ?_ _ | refine Below.setCell ?_ ?_ _)) | go_size))
  have hz7 := hb7.size
  (try simp at hz7)
  clear hb7
  replace cR := R7.cell
  replace fR := R7.frozen
  replace zR := R7.size
  replace cA := A7.cell
  replace fA := A7.frozen
  replace zA := A7.size
  replace cX := X7.cell
  replace fX := X7.frozen
  replace zX := X7.size
  go_wp2_with (first | (refine store_blk 48 (.tmp 2) (.tmp 84) (w.heap.size) #[.int .u16 0, .int .u16 0, .int .u16 0, .int .u16 0] #[.int .u16 k0, .int .u16 0, .int .u16 0, .int .u16 k3] 48 (by rfl) (by rfl) (by rfl) (by rfl) (by (repeat' (first | (with_reducible (first | assumption | exact Blk.alloc_new _ _ _ (by first | rfl | (simp; done) | omega) | apply Blk.drewN | apply Blk.drew | apply Blk.alloc_old | apply Blk.set_same | apply Blk.set_other)) | (show (_ : Nat) ≠ _; first | omega | (simp; done) | (simp; omega)) | ((simp only [List.setIfInBounds_toArray, List.set_cons_succ, List.set_cons_zero]); (with_reducible exact rfl)) | (with_reducible exact rfl) | (show (_ : Array Value) = _; exact rfl)))) rfl (by kernel_rfl) (by simp [Value.oneCell']) ?_; intro v Bv kB kO hs; have gv : Below w.heap.size w v := kB _ _ (by first | (simp; done) | omega | (simp; omega)) (by (repeat' (first | (with_reducible (first | exact Below.refl _ _ | assumption | refine below_drewN ?_ _ | refine Below.drew ?_ | refine Below.alloc ?_ ?_ _ | refine Below.setCell ?_ ?_ _)) | go_size))); clear kB kO hs))
  refine bodyPost_ret (v := .agg #[.int .u16 k0, .int .u16 0, .int .u16 0, .int .u16 k3]) ?_ ?_ ?_
  · exact results_blk (w.heap.size) #[.int .u16 k0, .int .u16 0, .int .u16 0, .int .u16 k3] 48 _ _ _ Try.results30 (by rfl) Bv Try.underlying48 rfl (by kernel_rfl)
  · rfl
  · exact ⟨rfl, gv⟩
set_option maxRecDepth 100000 in
set_option maxHeartbeats 4000000 in
theorem rkey_c17 (l b : List Int) (h : HD) (k0 x1 x2 k3 : Int) (w : World) (ok : h.ok) (hbl : b.length ≤ 4611686018427387904) (hk0 : h.pr * 256 + h.tos / 4 = k0) (hx1 : xN (h.src / 65536) (h.src % 65536) = x1) (hx2 : xN (h.dst / 65536) (h.dst % 65536) = x2) (hk3 : xN x1 x2 = k3) (h1 : h.pr = 17) (h2 : h.off = 0) (h4 : b.length < 4)
    (KH : Hid (∀ v, Calls Try.prog 51 #[SV l] v fun e w' => e = .returned (.agg #[.int .u8 h.tos, .int .u16 h.id, .int .u8 h.fl, .int .u16 h.off, .int .u8 h.ttl, .int .u8 h.pr, .int .u32 h.src, .int .u32 h.dst, SV h.o]) ∧ Below v.heap.size v w'))
    (KY : Hid (∀ v, Calls Try.prog 52 #[SV l] v fun e w' => e = .returned (SV b) ∧ Below v.heap.size v w')) :
    Calls Try.prog 30 #[SV l] w fun e w' => e = .returned (.agg #[.int .u16 k0, .int .u16 0, .int .u16 0, .int .u16 k3]) ∧ Below w.heap.size w w' := by
  have ks := sv_size
  obtain ⟨o1, o2, o3, o4, o5, o6, o7, o8, o9⟩ := ok
  have hk0r : 0 ≤ k0 ∧ k0 ≤ 65535 := by omega
  have hr1 : 0 ≤ x1 ∧ x1 ≤ 65535 := by rw [← hx1]; exact xN_16 (by omega) (by omega)
  have hr2 : 0 ≤ x2 ∧ x2 ≤ 65535 := by rw [← hx2]; exact xN_16 (by omega) (by omega)
  have hr3 : 0 ≤ k3 ∧ k3 ≤ 65535 := by rw [← hk3]; exact xN_16 hr1 hr2
  have ht0 : h.tos.tdiv 4 = h.tos / 4 := Int.tdiv_eq_ediv_of_nonneg o1.1
  have ht1 : h.src.tdiv 65536 = h.src / 65536 := Int.tdiv_eq_ediv_of_nonneg o7.1
  have ht2 : h.src.tmod 65536 = h.src % 65536 := Int.tmod_eq_emod_of_nonneg o7.1
  have ht3 : h.dst.tdiv 65536 = h.dst / 65536 := Int.tdiv_eq_ediv_of_nonneg o8.1
  have ht4 : h.dst.tmod 65536 = h.dst % 65536 := Int.tmod_eq_emod_of_nonneg o8.1
  have hwk : IntKind.u16.wrap k0 = k0 := by simp [IntKind.wrap, IntKind.bits, IntKind.signed]; omega
  have hw3 : IntKind.u16.wrap k3 = k3 := by simp [IntKind.wrap, IntKind.bits, IntKind.signed]; omega
  have HX1 := hide hx1; have HX2 := hide hx2; have HK3 := hide hk3
  clear hx1 hx2 hk3
  have d6 : (h.pr == 6) = false := by simp; omega
  have d17 : (h.pr == 17) = true := by simp; omega
  have d0 : (h.off == 0) = true := by simp; omega
  have d4 : decide (4 ≤ b.length) = false := decide_eq_false (by omega)
  have d4' : decide ((4 : Int) ≤ (b.length : Int)) = false := decide_eq_false (by omega)
  clear h1 h2
  go_enter Try.func30, Try.ntmps30
  go_wp2_with fail
  refine (KH.out _).mono ?_
  rintro e w1 ⟨rfl, hb1⟩
  have R1 : Blk w1 (w.heap.size) #[.int .u16 0, .int .u16 0, .int .u16 0, .int .u16 0] 48 := Blk.below (by (repeat' (first | (with_reducible (first | assumption | exact Blk.alloc_new _ _ _ (by first | rfl | (simp; done) | omega) | apply Blk.drewN | apply Blk.drew | apply Blk.alloc_old | apply Blk.set_same | apply Blk.set_other)) | (show (_ : Nat) ≠ _; first | omega | (simp; done) | (simp; omega)) | ((simp only [List.setIfInBounds_toArray, List.set_cons_succ, List.set_cons_zero]); (with_reducible exact rfl)) | (with_reducible exact rfl) | (show (_ : Array Value) = _; exact rfl)))) hb1 (by first | (simp; done) | omega | (simp; omega))
  have g1 : Below w.heap.size w w1 := by refine Below.trans ?_ (hb1.mono ?_) <;> (repeat' (first | (with_reducible (first | exact Below.refl _ _ | assumption | refine below_drewN ?_ _ | refine Below.drew ?_ | refine Below.alloc ?_ ?_ _ | refine Below.setCell ?_ ?_ _)) | go_size))
  have hz1 := hb1.size
  (try simp at hz1)
  clear hb1
  replace cR := R1.cell
  replace fR := R1.frozen
  replace zR := R1.size
  go_wp2_with fail
  refine (KY.out _).mono ?_
  rintro e w2 ⟨rfl, hb2⟩
  have R2 : Blk w2 (w.heap.size) #[.int .u16 0, .int .u16 0, .int .u16 0, .int .u16 0] 48 := Blk.below (by (repeat' (first | (with_reducible (first | assumption | exact Blk.alloc_new _ _ _ (by first | rfl | (simp; done) | omega) | apply Blk.drewN | apply Blk.drew | apply Blk.alloc_old | apply Blk.set_same | apply Blk.set_other)) | (show (_ : Nat) ≠ _; first | omega | (simp; done) | (simp; omega)) | ((simp only [List.setIfInBounds_toArray, List.set_cons_succ, List.set_cons_zero]); (with_reducible exact rfl)) | (with_reducible exact rfl) | (show (_ : Array Value) = _; exact rfl)))) hb2 (by first | (simp; done) | omega | (simp; omega))
  have A2 : Blk w2 (w1.heap.size) #[.int .u8 h.tos, .int .u16 h.id, .int .u8 h.fl, .int .u16 h.off, .int .u8 h.ttl, .int .u8 h.pr, .int .u32 h.src, .int .u32 h.dst, SV h.o] 121 := Blk.below (by (repeat' (first | (with_reducible (first | assumption | exact Blk.alloc_new _ _ _ (by first | rfl | (simp; done) | omega) | apply Blk.drewN | apply Blk.drew | apply Blk.alloc_old | apply Blk.set_same | apply Blk.set_other)) | (show (_ : Nat) ≠ _; first | omega | (simp; done) | (simp; omega)) | ((simp only [List.setIfInBounds_toArray, List.set_cons_succ, List.set_cons_zero]); (with_reducible exact rfl)) | (with_reducible exact rfl) | (show (_ : Array Value) = _; exact rfl)))) hb2 (by first | (simp; done) | omega | (simp; omega))
  have g2 : Below w.heap.size w w2 := by refine Below.trans ?_ (hb2.mono ?_) <;> (repeat' (first | (with_reducible (first | exact Below.refl _ _ | assumption | refine below_drewN ?_ _ | refine Below.drew ?_ | refine Below.alloc ?_ ?_ _ | refine Below.setCell ?_ ?_ _)) | go_size))
  have hz2 := hb2.size
  (try simp at hz2)
  clear hb2
  replace cR := R2.cell
  replace fR := R2.frozen
  replace zR := R2.size
  replace cA := A2.cell
  replace fA := A2.frozen
  replace zA := A2.size
  skip
  go_wp2_with fail
  refine (rxor (h.src / 65536) (h.src % 65536) x1 _ (by omega) (by omega) HX1.out).mono ?_
  rintro e w5 ⟨rfl, hb5⟩
  have R5 : Blk w5 (w.heap.size) #[.int .u16 0, .int .u16 0, .int .u16 0, .int .u16 0] 48 := Blk.below (by (repeat' (first | (with_reducible (first | assumption | exact Blk.alloc_new _ _ _ (by first | rfl | (simp; done) | omega) | apply Blk.drewN | apply Blk.drew | apply Blk.alloc_old | apply Blk.set_same | apply Blk.set_other)) | (show (_ : Nat) ≠ _; first | omega | (simp; done) | (simp; omega)) | ((simp only [List.setIfInBounds_toArray, List.set_cons_succ, List.set_cons_zero]); (with_reducible exact rfl)) | (with_reducible exact rfl) | (show (_ : Array Value) = _; exact rfl)))) hb5 (by first | (simp; done) | omega | (simp; omega))
  have A5 : Blk w5 (w1.heap.size) #[.int .u8 h.tos, .int .u16 h.id, .int .u8 h.fl, .int .u16 h.off, .int .u8 h.ttl, .int .u8 h.pr, .int .u32 h.src, .int .u32 h.dst, SV h.o] 121 := Blk.below (by (repeat' (first | (with_reducible (first | assumption | exact Blk.alloc_new _ _ _ (by first | rfl | (simp; done) | omega) | apply Blk.drewN | apply Blk.drew | apply Blk.alloc_old | apply Blk.set_same | apply Blk.set_other)) | (show (_ : Nat) ≠ _; first | omega | (simp; done) | (simp; omega)) | ((simp only [List.setIfInBounds_toArray, List.set_cons_succ, List.set_cons_zero]); (with_reducible exact rfl)) | (with_reducible exact rfl) | (show (_ : Array Value) = _; exact rfl)))) hb5 (by first | (simp; done) | omega | (simp; omega))
  have X5 : Blk w5 (w2.heap.size) #[.int .u16 k0, .int .u16 0, .int .u16 0, .int .u16 0] 48 := Blk.below (by (repeat' (first | (with_reducible (first | assumption | exact Blk.alloc_new _ _ _ (by first | rfl | (simp; done) | omega) | apply Blk.drewN | apply Blk.drew | apply Blk.alloc_old | apply Blk.set_same | apply Blk.set_other)) | (show (_ : Nat) ≠ _; first | omega | (simp; done) | (simp; omega)) | ((simp only [List.setIfInBounds_toArray, List.set_cons_succ, List.set_cons_zero]); (with_reducible exact rfl)) | (with_reducible exact rfl) | (show (_ : Array Value) = _; exact rfl)))) hb5 (by first | (simp; done) | omega | (simp; omega))
  have g5 : Below w.heap.size w w5 := by refine Below.trans ?_ (hb5.mono ?_) <;> (repeat' (first | (with_reducible (first | exact Below.refl _ _ | assumption | refine below_drewN ?_ _ | refine Below.drew ?_ | refine Below.alloc ?_ ?_ _ | refine Below.setCell ?_ ?_ _)) | go_size))
  have hz5 := hb5.size
  (try simp at hz5)
  clear hb5
  replace cR := R5.cell
  replace fR := R5.frozen
  replace zR := R5.size
  replace cA := A5.cell
  replace fA := A5.frozen
  replace zA := A5.size
  replace cX := X5.cell
  replace fX := X5.frozen
  replace zX := X5.size
  go_wp2_with fail
  refine (rxor (h.dst / 65536) (h.dst % 65536) x2 _ (by omega) (by omega) HX2.out).mono ?_
  rintro e w6 ⟨rfl, hb6⟩
  have R6 : Blk w6 (w.heap.size) #[.int .u16 0, .int .u16 0, .int .u16 0, .int .u16 0] 48 := Blk.below (by (repeat' (first | (with_reducible (first | assumption | exact Blk.alloc_new _ _ _ (by first | rfl | (simp; done) | omega) | apply Blk.drewN | apply Blk.drew | apply Blk.alloc_old | apply Blk.set_same | apply Blk.set_other)) | (show (_ : Nat) ≠ _; first | omega | (simp; done) | (simp; omega)) | ((simp only [List.setIfInBounds_toArray, List.set_cons_succ, List.set_cons_zero]); (with_reducible exact rfl)) | (with_reducible exact rfl) | (show (_ : Array Value) = _; exact rfl)))) hb6 (by first | (simp; done) | omega | (simp; omega))
  have A6 : Blk w6 (w1.heap.size) #[.int .u8 h.tos, .int .u16 h.id, .int .u8 h.fl, .int .u16 h.off, .int .u8 h.ttl, .int .u8 h.pr, .int .u32 h.src, .int .u32 h.dst, SV h.o] 121 := Blk.below (by (repeat' (first | (with_reducible (first | assumption | exact Blk.alloc_new _ _ _ (by first | rfl | (simp; done) | omega) | apply Blk.drewN | apply Blk.drew | apply Blk.alloc_old | apply Blk.set_same | apply Blk.set_other)) | (show (_ : Nat) ≠ _; first | omega | (simp; done) | (simp; omega)) | ((simp only [List.setIfInBounds_toArray, List.set_cons_succ, List.set_cons_zero]); (with_reducible exact rfl)) | (with_reducible exact rfl) | (show (_ : Array Value) = _; exact rfl)))) hb6 (by first | (simp; done) | omega | (simp; omega))
  have X6 : Blk w6 (w2.heap.size) #[.int .u16 k0, .int .u16 0, .int .u16 0, .int .u16 0] 48 := Blk.below (by (repeat' (first | (with_reducible (first | assumption | exact Blk.alloc_new _ _ _ (by first | rfl | (simp; done) | omega) | apply Blk.drewN | apply Blk.drew | apply Blk.alloc_old | apply Blk.set_same | apply Blk.set_other)) | (show (_ : Nat) ≠ _; first | omega | (simp; done) | (simp; omega)) | ((simp only [List.setIfInBounds_toArray, List.set_cons_succ, List.set_cons_zero]); (with_reducible exact rfl)) | (with_reducible exact rfl) | (show (_ : Array Value) = _; exact rfl)))) hb6 (by first | (simp; done) | omega | (simp; omega))
  have g6 : Below w.heap.size w w6 := by refine Below.trans ?_ (hb6.mono ?_) <;> (repeat' (first | (with_reducible (first | exact Below.refl _ _ | assumption | refine below_drewN ?_ _ | refine Below.drew ?_ | refine Below.alloc ?_ ?_ _ | refine Below.setCell ?_ ?_ _)) | go_size))
  have hz6 := hb6.size
  (try simp at hz6)
  clear hb6
  replace cR := R6.cell
  replace fR := R6.frozen
  replace zR := R6.size
  replace cA := A6.cell
  replace fA := A6.frozen
  replace zA := A6.size
  replace cX := X6.cell
  replace fX := X6.frozen
  replace zX := X6.size
  go_wp2_with fail
  refine (rxor x1 x2 k3 _ hr1 hr2 HK3.out).mono ?_
  rintro e w7 ⟨rfl, hb7⟩
  have R7 : Blk w7 (w.heap.size) #[.int .u16 0, .int .u16 0, .int .u16 0, .int .u16 0] 48 := Blk.below (by (repeat' (first | (with_reducible (first | assumption | exact Blk.alloc_new _ _ _ (by first | rfl | (simp; done) | omega) | apply Blk.drewN | apply Blk.drew | apply Blk.alloc_old | apply Blk.set_same | apply Blk.set_other)) | (show (_ : Nat) ≠ _; first | omega | (simp; done) | (simp; omega)) | ((simp only [List.setIfInBounds_toArray, List.set_cons_succ, List.set_cons_zero]); (with_reducible exact rfl)) | (with_reducible exact rfl) | (show (_ : Array Value) = _; exact rfl)))) hb7 (by first | (simp; done) | omega | (simp; omega))
  have A7 : Blk w7 (w1.heap.size) #[.int .u8 h.tos, .int .u16 h.id, .int .u8 h.fl, .int .u16 h.off, .int .u8 h.ttl, .int .u8 h.pr, .int .u32 h.src, .int .u32 h.dst, SV h.o] 121 := Blk.below (by (repeat' (first | (with_reducible (first | assumption | exact Blk.alloc_new _ _ _ (by first | rfl | (simp; done) | omega) | apply Blk.drewN | apply Blk.drew | apply Blk.alloc_old | apply Blk.set_same | apply Blk.set_other)) | (show (_ : Nat) ≠ _; first | omega | (simp; done) | (simp; omega)) | ((simp only [List.setIfInBounds_toArray, List.set_cons_succ, List.set_cons_zero]); (with_reducible exact rfl)) | (with_reducible exact rfl) | (show (_ : Array Value) = _; exact rfl)))) hb7 (by first | (simp; done) | omega | (simp; omega))
  have X7 : Blk w7 (w2.heap.size) #[.int .u16 k0, .int .u16 0, .int .u16 0, .int .u16 0] 48 := Blk.below (by (repeat' (first | (with_reducible (first | assumption | exact Blk.alloc_new _ _ _ (by first | rfl | (simp; done) | omega) | apply Blk.drewN | apply Blk.drew | apply Blk.alloc_old | apply Blk.set_same | apply Blk.set_other)) | (show (_ : Nat) ≠ _; first | omega | (simp; done) | (simp; omega)) | ((simp only [List.setIfInBounds_toArray, List.set_cons_succ, List.set_cons_zero]); (with_reducible exact rfl)) | (with_reducible exact rfl) | (show (_ : Array Value) = _; exact rfl)))) hb7 (by first | (simp; done) | omega | (simp; omega))
  have g7 : Below w.heap.size w w7 := by refine Below.trans ?_ (hb7.mono ?_) <;> (repeat' (first | (with_reducible (first | exact Below.refl _ _ | assumption | refine below_drewN ?_ _ | refine Below.drew ?_ | refine Below.alloc ?_ ?_ _ | refine Below.setCell ?_ ?_ _)) | go_size))
  have hz7 := hb7.size
  (try simp at hz7)
  clear hb7
  replace cR := R7.cell
  replace fR := R7.frozen
  replace zR := R7.size
  replace cA := A7.cell
  replace fA := A7.frozen
  replace zA := A7.size
  replace cX := X7.cell
  replace fX := X7.frozen
  replace zX := X7.size
  go_wp2_with (first | (refine store_blk 48 (.tmp 2) (.tmp 84) (w.heap.size) #[.int .u16 0, .int .u16 0, .int .u16 0, .int .u16 0] #[.int .u16 k0, .int .u16 0, .int .u16 0, .int .u16 k3] 48 (by rfl) (by rfl) (by rfl) (by rfl) (by (repeat' (first | (with_reducible (first | assumption | exact Blk.alloc_new _ _ _ (by first | rfl | (simp; done) | omega) | apply Blk.drewN | apply Blk.drew | apply Blk.alloc_old | apply Blk.set_same | apply Blk.set_other)) | (show (_ : Nat) ≠ _; first | omega | (simp; done) | (simp; omega)) | ((simp only [List.setIfInBounds_toArray, List.set_cons_succ, List.set_cons_zero]); (with_reducible exact rfl)) | (with_reducible exact rfl) | (show (_ : Array Value) = _; exact rfl)))) rfl (by kernel_rfl) (by simp [Value.oneCell']) ?_; intro v Bv kB kO hs; have gv : Below w.heap.size w v := kB _ _ (by first | (simp; done) | omega | (simp; omega)) (by (repeat' (first | (with_reducible (first | exact Below.refl _ _ | assumption | refine below_drewN ?_ _ | refine Below.drew ?_ | refine Below.alloc ?_ ?_ _ | refine Below.setCell ?_ ?_ _)) | go_size))); clear kB kO hs))
  refine bodyPost_ret (v := .agg #[.int .u16 k0, .int .u16 0, .int .u16 0, .int .u16 k3]) ?_ ?_ ?_
  · exact results_blk (w.heap.size) #[.int .u16 k0, .int .u16 0, .int .u16 0, .int .u16 k3] 48 _ _ _ Try.results30 (by rfl) Bv Try.underlying48 rfl (by kernel_rfl)
  · rfl
  · exact ⟨rfl, gv⟩
set_option maxRecDepth 100000 in
set_option maxHeartbeats 4000000 in
theorem rkey_d17 (l b : List Int) (h : HD) (k0 x1 x2 k3 : Int) (w : World) (ok : h.ok) (hbl : b.length ≤ 4611686018427387904) (hk0 : h.pr * 256 + h.tos / 4 = k0) (hx1 : xN (h.src / 65536) (h.src % 65536) = x1) (hx2 : xN (h.dst / 65536) (h.dst % 65536) = x2) (hk3 : xN x1 x2 = k3) (p1 p2 : Int) (hb : Byt b) (h1 : h.pr = 17) (h2 : h.off = 0) (h4 : 4 ≤ b.length) (hp1 : b.getD 0 0 * 256 + b.getD 1 0 = p1) (hp2 : b.getD 2 0 * 256 + b.getD 3 0 = p2)
    (KH : Hid (∀ v, Calls Try.prog 51 #[SV l] v fun e w' => e = .returned (.agg #[.int .u8 h.tos, .int .u16 h.id, .int .u8 h.fl, .int .u16 h.off, .int .u8 h.ttl, .int .u8 h.pr, .int .u32 h.src, .int .u32 h.dst, SV h.o]) ∧ Below v.heap.size v w'))
    (KY : Hid (∀ v, Calls Try.prog 52 #[SV l] v fun e w' => e = .returned (SV b) ∧ Below v.heap.size v w')) :
    Calls Try.prog 30 #[SV l] w fun e w' => e = .returned (.agg #[.int .u16 k0, .int .u16 p1, .int .u16 p2, .int .u16 k3]) ∧ Below w.heap.size w w' := by
  have ks := sv_size
  obtain ⟨o1, o2, o3, o4, o5, o6, o7, o8, o9⟩ := ok
  have hk0r : 0 ≤ k0 ∧ k0 ≤ 65535 := by omega
  have hr1 : 0 ≤ x1 ∧ x1 ≤ 65535 := by rw [← hx1]; exact xN_16 (by omega) (by omega)
  have hr2 : 0 ≤ x2 ∧ x2 ≤ 65535 := by rw [← hx2]; exact xN_16 (by omega) (by omega)
  have hr3 : 0 ≤ k3 ∧ k3 ≤ 65535 := by rw [← hk3]; exact xN_16 hr1 hr2
  have ht0 : h.tos.tdiv 4 = h.tos / 4 := Int.tdiv_eq_ediv_of_nonneg o1.1
  have ht1 : h.src.tdiv 65536 = h.src / 65536 := Int.tdiv_eq_ediv_of_nonneg o7.1
  have ht2 : h.src.tmod 65536 = h.src % 65536 := Int.tmod_eq_emod_of_nonneg o7.1
  have ht3 : h.dst.tdiv 65536 = h.dst / 65536 := Int.tdiv_eq_ediv_of_nonneg o8.1
  have ht4 : h.dst.tmod 65536 = h.dst % 65536 := Int.tmod_eq_emod_of_nonneg o8.1
  have hwk : IntKind.u16.wrap k0 = k0 := by simp [IntKind.wrap, IntKind.bits, IntKind.signed]; omega
  have hw3 : IntKind.u16.wrap k3 = k3 := by simp [IntKind.wrap, IntKind.bits, IntKind.signed]; omega
  have HX1 := hide hx1; have HX2 := hide hx2; have HK3 := hide hk3
  clear hx1 hx2 hk3
  have d6 : (h.pr == 6) = false := by simp; omega
  have d17 : (h.pr == 17) = true := by simp; omega
  have d0 : (h.off == 0) = true := by simp; omega
  have d4 : decide (4 ≤ b.length) = true := decide_eq_true (by omega)
  have d4' : decide ((4 : Int) ≤ (b.length : Int)) = true := decide_eq_true (by omega)
  clear h1 h2
  obtain ⟨y0, hy0⟩ : ∃ x, b.getD 0 0 = x := ⟨_, rfl⟩
  have r0 := hb.get 0
  rw [hy0] at r0
  have ix0 : ∀ v, (Instr.index 9 (SV b) (.int .i64 0)).run Try.prog v = .ok (.int .u8 y0) v := fun v => sv_idx hb 0 y0 (by omega) hy0 v
  have wi0 : IntKind.i64.wrap y0 = y0 := IntWalk.i64_in _ ⟨by omega, by omega⟩
  have wj0 : IntKind.i64.wrap (256 * y0) = 256 * y0 := IntWalk.i64_in _ ⟨by omega, by omega⟩
  obtain ⟨y1, hy1⟩ : ∃ x, b.getD 1 0 = x := ⟨_, rfl⟩
  have r1 := hb.get 1
  rw [hy1] at r1
  have ix1 : ∀ v, (Instr.index 9 (SV b) (.int .i64 1)).run Try.prog v = .ok (.int .u8 y1) v := fun v => sv_idx hb 1 y1 (by omega) hy1 v
  have wi1 : IntKind.i64.wrap y1 = y1 := IntWalk.i64_in _ ⟨by omega, by omega⟩
  have wj1 : IntKind.i64.wrap (256 * y1) = 256 * y1 := IntWalk.i64_in _ ⟨by omega, by omega⟩
  obtain ⟨y2, hy2⟩ : ∃ x, b.getD 2 0 = x := ⟨_, rfl⟩
  have r2 := hb.get 2
  rw [hy2] at r2
  have ix2 : ∀ v, (Instr.index 9 (SV b) (.int .i64 2)).run Try.prog v = .ok (.int .u8 y2) v := fun v => sv_idx hb 2 y2 (by omega) hy2 v
  have wi2 : IntKind.i64.wrap y2 = y2 := IntWalk.i64_in _ ⟨by omega, by omega⟩
  have wj2 : IntKind.i64.wrap (256 * y2) = 256 * y2 := IntWalk.i64_in _ ⟨by omega, by omega⟩
  obtain ⟨y3, hy3⟩ : ∃ x, b.getD 3 0 = x := ⟨_, rfl⟩
  have r3 := hb.get 3
  rw [hy3] at r3
  have ix3 : ∀ v, (Instr.index 9 (SV b) (.int .i64 3)).run Try.prog v = .ok (.int .u8 y3) v := fun v => sv_idx hb 3 y3 (by omega) hy3 v
  have wi3 : IntKind.i64.wrap y3 = y3 := IntWalk.i64_in _ ⟨by omega, by omega⟩
  have wj3 : IntKind.i64.wrap (256 * y3) = 256 * y3 := IntWalk.i64_in _ ⟨by omega, by omega⟩
  rw [hy0, hy1] at hp1; rw [hy2, hy3] at hp2
  have ep1 : 256 * y0 + y1 = p1 := by omega
  have rp1 : 0 ≤ p1 ∧ p1 ≤ 65535 := by omega
  have wlp1 : IntKind.i64.wrap p1 = p1 := IntWalk.i64_in _ ⟨by omega, by omega⟩
  have wup1 : IntKind.u16.wrap p1 = p1 := by simp [IntKind.wrap, IntKind.bits, IntKind.signed]; omega
  have ep2 : 256 * y2 + y3 = p2 := by omega
  have rp2 : 0 ≤ p2 ∧ p2 ≤ 65535 := by omega
  have wlp2 : IntKind.i64.wrap p2 = p2 := IntWalk.i64_in _ ⟨by omega, by omega⟩
  have wup2 : IntKind.u16.wrap p2 = p2 := by simp [IntKind.wrap, IntKind.bits, IntKind.signed]; omega
  clear hy0 hy1 hy2 hy3 hp1 hp2
  go_enter Try.func30, Try.ntmps30
  go_wp2_with fail
  refine (KH.out _).mono ?_
  rintro e w1 ⟨rfl, hb1⟩
  have R1 : Blk w1 (w.heap.size) #[.int .u16 0, .int .u16 0, .int .u16 0, .int .u16 0] 48 := Blk.below (by (repeat' (first | (with_reducible (first | assumption | exact Blk.alloc_new _ _ _ (by first | rfl | (simp; done) | omega) | apply Blk.drewN | apply Blk.drew | apply Blk.alloc_old | apply Blk.set_same | apply Blk.set_other)) | (show (_ : Nat) ≠ _; first | omega | (simp; done) | (simp; omega)) | ((simp only [List.setIfInBounds_toArray, List.set_cons_succ, List.set_cons_zero]); (with_reducible exact rfl)) | (with_reducible exact rfl) | (show (_ : Array Value) = _; exact rfl)))) hb1 (by first | (simp; done) | omega | (simp; omega))
  have g1 : Below w.heap.size w w1 := by refine Below.trans ?_ (hb1.mono ?_) <;> (repeat' (first | (with_reducible (first | exact Below.refl _ _ | assumption | refine below_drewN ?_ _ | refine Below.drew ?_ | refine Below.alloc ?_ ?_ _ | refine Below.setCell ?_ ?_ _)) | go_size))
  have hz1 := hb1.size
  (try simp at hz1)
  clear hb1
  replace cR := R1.cell
  replace fR := R1.frozen
  replace zR := R1.size
  go_wp2_with fail
  refine (KY.out _).mono ?_
  rintro e w2 ⟨rfl, hb2⟩
  have R2 : Blk w2 (w.heap.size) #[.int .u16 0, .int .u16 0, .int .u16 0, .int .u16 0] 48 := Blk.below (by (repeat' (first | (with_reducible (first | assumption | exact Blk.alloc_new _ _ _ (by first | rfl | (simp; done) | omega) | apply Blk.drewN | apply Blk.drew | apply Blk.alloc_old | apply Blk.set_same | apply Blk.set_other)) | (show (_ : Nat) ≠ _; first | omega | (simp; done) | (simp; omega)) | ((simp only [List.setIfInBounds_toArray, List.set_cons_succ, List.set_cons_zero]); (with_reducible exact rfl)) | (with_reducible exact rfl) | (show (_ : Array Value) = _; exact rfl)))) hb2 (by first | (simp; done) | omega | (simp; omega))
  have A2 : Blk w2 (w1.heap.size) #[.int .u8 h.tos, .int .u16 h.id, .int .u8 h.fl, .int .u16 h.off, .int .u8 h.ttl, .int .u8 h.pr, .int .u32 h.src, .int .u32 h.dst, SV h.o] 121 := Blk.below (by (repeat' (first | (with_reducible (first | assumption | exact Blk.alloc_new _ _ _ (by first | rfl | (simp; done) | omega) | apply Blk.drewN | apply Blk.drew | apply Blk.alloc_old | apply Blk.set_same | apply Blk.set_other)) | (show (_ : Nat) ≠ _; first | omega | (simp; done) | (simp; omega)) | ((simp only [List.setIfInBounds_toArray, List.set_cons_succ, List.set_cons_zero]); (with_reducible exact rfl)) | (with_reducible exact rfl) | (show (_ : Array Value) = _; exact rfl)))) hb2 (by first | (simp; done) | omega | (simp; omega))
  have g2 : Below w.heap.size w w2 := by refine Below.trans ?_ (hb2.mono ?_) <;> (repeat' (first | (with_reducible (first | exact Below.refl _ _ | assumption | refine below_drewN ?_ _ | refine Below.drew ?_ | refine Below.alloc ?_ ?_ _ | refine Below.setCell ?_ ?_ _)) | go_size))
  have hz2 := hb2.size
  (try simp at hz2)
  clear hb2
  replace cR := R2.cell
  replace fR := R2.frozen
  replace zR := R2.size
  replace cA := A2.cell
  replace fA := A2.frozen
  replace zA := A2.size
  go_upto_region 5 with (fail)
  refine wp_forget (fun v => Below w.heap.size w v ∧ Blk v (w.heap.size) #[.int .u16 0, .int .u16 0, .int .u16 0, .int .u16 0] 48 ∧ Blk v (w1.heap.size) #[.int .u8 h.tos, .int .u16 h.id, .int .u8 h.fl, .int .u16 h.off, .int .u8 h.ttl, .int .u8 h.pr, .int .u32 h.src, .int .u32 h.dst, SV h.o] 121 ∧ Blk v (w2.heap.size) #[.int .u16 k0, .int .u16 0, .int .u16 0, .int .u16 0] 48) ⟨by (repeat' (first | (with_reducible (first | exact Below.refl _ _ | assumption | refine below_drewN ?_ _ | refine Below.drew ?_ | refine Below.alloc ?_ ?_ _ | refine Below.setCell ?_ ?_ _)) | go_size)), by (repeat' (first | (with_reducible (first | assumption | exact Blk.alloc_new _ _ _ (by first | rfl | (simp; done) | omega) | apply Blk.drewN | apply Blk.drew | apply Blk.alloc_old | apply Blk.set_same | apply Blk.set_other)) | (show (_ : Nat) ≠ _; first | omega | (simp; done) | (simp; omega)) | ((simp only [List.setIfInBounds_toArray, List.set_cons_succ, List.set_cons_zero]); (with_reducible exact rfl)) | (with_reducible exact rfl) | (show (_ : Array Value) = _; exact rfl))), by (repeat' (first | (with_reducible (first | assumption | exact Blk.alloc_new _ _ _ (by first | rfl | (simp; done) | omega) | apply Blk.drewN | apply Blk.drew | apply Blk.alloc_old | apply Blk.set_same | apply Blk.set_other)) | (show (_ : Nat) ≠ _; first | omega | (simp; done) | (simp; omega)) | ((simp only [List.setIfInBounds_toArray, List.set_cons_succ, List.set_cons_zero]); (with_reducible exact rfl)) | (with_reducible exact rfl) | (show (_ : Array Value) = _; exact rfl))), by (repeat' (first | (with_reducible (first | assumption | exact Blk.alloc_new _ _ _ (by first | rfl | (simp; done) | omega) | apply Blk.drewN | apply Blk.drew | apply Blk.alloc_old | apply Blk.set_same | apply Blk.set_other)) | (show (_ : Nat) ≠ _; first | omega | (simp; done) | (simp; omega)) | ((simp only [List.setIfInBounds_toArray, List.set_cons_succ, List.set_cons_zero]); (with_reducible exact rfl)) | (with_reducible exact rfl) | (show (_ : Array Value) = _; exact rfl)))⟩ ?_
  rintro w3 ⟨g3, R3, A3, X3⟩
  have hz3 := g3.size
  replace cR := R3.cell
  replace fR := R3.frozen
  replace zR := R3.size
  replace cA := A3.cell
  replace fA := A3.frozen
  replace zA := A3.size
  replace cX := X3.cell
  replace fX := X3.frozen
  replace zX := X3.size
  have hlt1 : w.heap.size < w1.heap.size := R1.size
  have hlt2 : w1.heap.size < w2.heap.size := A2.size
  go_cut [49] (fun s49 wx => s49 = .int .u16 p1 ∧ Below w.heap.size w wx ∧ Blk wx (w.heap.size) #[.int .u16 0, .int .u16 0, .int .u16 0, .int .u16 0] 48 ∧ Blk wx (w1.heap.size) #[.int .u8 h.tos, .int .u16 h.id, .int .u8 h.fl, .int .u16 h.off, .int .u8 h.ttl, .int .u8 h.pr, .int .u32 h.src, .int .u32 h.dst, SV h.o] 121 ∧ Blk wx (w2.heap.size) #[.int .u16 k0, .int .u16 p1, .int .u16 0, .int .u16 0] 48)
  case first =>
    refine wp_region_guarS (w.heap.size) (w2.heap.size + 1) [(w.heap.size, #[.int .u16 0, .int .u16 0, .int .u16 0, .int .u16 0], 48), (w1.heap.size, #[.int .u8 h.tos, .int .u16 h.id, .int .u8 h.fl, .int .u16 h.off, .int .u8 h.ttl, .int .u8 h.pr, .int .u32 h.src, .int .u32 h.dst, SV h.o], 121)] [] [(w2.heap.size, #[.int .u16 k0, .int .u16 p1, .int .u16 0, .int .u16 0], 48)] [(w2.heap.size, 0, .int .u16 k0), (w2.heap.size, 1, .int .u16 p1), (w2.heap.size, 2, .int .u16 0), (w2.heap.size, 3, .int .u16 0)] [.val (SV b), .val (.int .u8 (y0)), .val (.int .i64 (y0)), .val (.int .i64 (256 * y0)), .val (SV b), .val (.int .u8 (y1)), .val (.int .i64 (y1)), .val (.int .i64 (p1)), .val (.int .u16 (p1)), .val (.pointer (some ⟨w2.heap.size, 1, none⟩)), .sets [1]] (by kernel_rfl) (by kernel_rfl) (by omega) (by omega) (by intro f m; simp only [List.mem_cons, List.not_mem_nil, or_false, List.append_nil, List.nil_append, List.cons_append] at m; rcases m with rfl | rfl <;> ((show Blk _ _ _ _) <;> (repeat' (first | (with_reducible (first | assumption | exact Blk.alloc_new _ _ _ (by first | rfl | (simp; done) | omega) | apply Blk.drewN | apply Blk.drew | apply Blk.alloc_old | apply Blk.set_same | apply Blk.set_other)) | (show (_ : Nat) ≠ _; first | omega | (simp; done) | (simp; omega)) | ((simp only [List.setIfInBounds_toArray, List.set_cons_succ, List.set_cons_zero]); (with_reducible exact rfl)) | (with_reducible exact rfl) | (show (_ : Array Value) = _; exact rfl))))) (by intro f m; simp only [List.mem_cons, List.not_mem_nil, or_false, List.append_nil, List.nil_append, List.cons_append] at m; rcases m with rfl <;> (first | (exact ⟨#[.int .u16 k0, .int .u16 0, .int .u16 0, .int .u16 0], rfl, by (repeat' (first | (with_reducible (first | assumption | exact Blk.alloc_new _ _ _ (by first | rfl | (simp; done) | omega) | apply Blk.drewN | apply Blk.drew | apply Blk.alloc_old | apply Blk.set_same | apply Blk.set_other)) | (show (_ : Nat) ≠ _; first | omega | (simp; done) | (simp; omega)) | ((simp only [List.setIfInBounds_toArray, List.set_cons_succ, List.set_cons_zero]); (with_reducible exact rfl)) | (with_reducible exact rfl) | (show (_ : Array Value) = _; exact rfl)))⟩))) ?_ ?_
    · refine ⟨?_, ?_, ?_, ?_, ?_, ?_, ?_, ?_, ?_, ?_, ?_, trivial⟩
      · intro a v c
        have e4 : a.eval (.tmp 4) = SV b := (c.off 4 (by kernel_rfl)).trans rfl
        have f4 := (eval_opt a 4).trans e4
        exact gvalS (SV b) (by simp only [execOp, f4, e4]; go_simp) rfl
      · intro a v c
        have e41 : a.eval (.tmp 41) = SV b := c.dep 0 _ (by kernel_rfl) rfl
        have f41 := (eval_opt a 41).trans e41
        exact gvalS (.int .u8 (y0)) (by simp only [execOp, f41, e41]; go_simp) rfl
      · intro a v c
        have e42 : a.eval (.tmp 42) = .int .u8 (y0) := c.dep 1 _ (by kernel_rfl) rfl
        have f42 := (eval_opt a 42).trans e42
        exact gvalS (.int .i64 (y0)) (by simp only [execOp, f42, e42]; go_simp) rfl
      · intro a v c
        have e43 : a.eval (.tmp 43) = .int .i64 (y0) := c.dep 2 _ (by kernel_rfl) rfl
        have f43 := (eval_opt a 43).trans e43
        exact gvalS (.int .i64 (256 * y0)) (by simp only [execOp, f43, e43]; go_simp) rfl
      · intro a v c
        have e4 : a.eval (.tmp 4) = SV b := (c.off 4 (by kernel_rfl)).trans rfl
        have f4 := (eval_opt a 4).trans e4
        exact gvalS (SV b) (by simp only [execOp, f4, e4]; go_simp) rfl
      · intro a v c
        have e45 : a.eval (.tmp 45) = SV b := c.dep 4 _ (by kernel_rfl) rfl
        have f45 := (eval_opt a 45).trans e45
        exact gvalS (.int .u8 (y1)) (by simp only [execOp, f45, e45]; go_simp) rfl
      · intro a v c
        have e46 : a.eval (.tmp 46) = .int .u8 (y1) := c.dep 5 _ (by kernel_rfl) rfl
        have f46 := (eval_opt a 46).trans e46
        exact gvalS (.int .i64 (y1)) (by simp only [execOp, f46, e46]; go_simp) rfl
      · intro a v c
        have e44 : a.eval (.tmp 44) = .int .i64 (256 * y0) := c.dep 3 _ (by kernel_rfl) rfl
        have e47 : a.eval (.tmp 47) = .int .i64 (y1) := c.dep 6 _ (by kernel_rfl) rfl
        have f44 := (eval_opt a 44).trans e44
        have f47 := (eval_opt a 47).trans e47
        exact gvalS (.int .i64 (p1)) (by simp only [execOp, f44, f47, e44, e47]; go_simp) rfl
      · intro a v c
        have e48 : a.eval (.tmp 48) = .int .i64 (p1) := c.dep 7 _ (by kernel_rfl) rfl
        have f48 := (eval_opt a 48).trans e48
        exact gvalS (.int .u16 (p1)) (by simp only [execOp, f48, e48]; go_simp) rfl
      · intro a v c
        have e5 : a.eval (.tmp 5) = .pointer (some ⟨w2.heap.size, 0, none⟩) := (c.off 5 (by kernel_rfl)).trans rfl
        have f5 := (eval_opt a 5).trans e5
        exact gvalS (.pointer (some ⟨w2.heap.size, 1, none⟩)) (by simp only [execOp, f5, e5]; go_simp) rfl
      · intro a v c
        have e50 : a.eval (.tmp 50) = .pointer (some ⟨w2.heap.size, 1, none⟩) := c.dep 9 _ (by kernel_rfl) rfl
        have e49 : a.eval (.tmp 49) = .int .u16 (p1) := c.dep 8 _ (by kernel_rfl) rfl
        exact gpartS [1] (w2.heap.size, #[.int .u16 k0, .int .u16 p1, .int .u16 0, .int .u16 0], 48) (w2.heap.size) 1 (.int .u16 p1) #[.int .u16 p1] 46 (.tmp 50) (.tmp 49) rfl e50 e49 rfl (c.room (w2.heap.size, #[.int .u16 k0, .int .u16 p1, .int .u16 0, .int .u16 0], 48) (by simp)) rfl (by simp) (by kernel_rfl) (by simp [Value.oneCell']) rfl (by intro q hq c hcq; simp only [List.mem_cons, List.not_mem_nil, or_false] at hq; rcases hq with rfl <;> (have hcq : some _ = some c := hcq; cases hcq; exact ⟨rfl, by simp, by simp⟩)) (by omega) (by omega) (by intro f m; simp only [List.mem_cons, List.not_mem_nil, or_false] at m; rcases m with rfl | rfl <;> ((show _ ≠ _) <;> (first | omega | (simp; omega)))) (fun _ h => absurd h (by simp)) (by intro c m e l1 l2; simp only [List.mem_cons, List.not_mem_nil, or_false] at m; rcases m with rfl | rfl | rfl | rfl <;> (first | rfl | (simp; done) | (exfalso; simp at l1; done) | (exfalso; simp at l2; done) | (exfalso; simp only at l1 l2; simp at l2; omega) | (exfalso; omega)))
    intro a v hb hF hRm hCl hd ho hs hf
    have e41 : a.eval (.tmp 41) = SV b := hd 0 _ rfl
    have e42 : a.eval (.tmp 42) = .int .u8 (y0) := hd 1 _ rfl
    have e43 : a.eval (.tmp 43) = .int .i64 (y0) := hd 2 _ rfl
    have e44 : a.eval (.tmp 44) = .int .i64 (256 * y0) := hd 3 _ rfl
    have e45 : a.eval (.tmp 45) = SV b := hd 4 _ rfl
    have e46 : a.eval (.tmp 46) = .int .u8 (y1) := hd 5 _ rfl
    have e47 : a.eval (.tmp 47) = .int .i64 (y1) := hd 6 _ rfl
    have e48 : a.eval (.tmp 48) = .int .i64 (p1) := hd 7 _ rfl
    have e49 : a.eval (.tmp 49) = .int .u16 (p1) := hd 8 _ rfl
    have e50 : a.eval (.tmp 50) = .pointer (some ⟨w2.heap.size, 1, none⟩) := hd 9 _ rfl
    have RG : Blk v (w.heap.size) #[.int .u16 0, .int .u16 0, .int .u16 0, .int .u16 0] 48 := hF (w.heap.size, #[.int .u16 0, .int .u16 0, .int .u16 0, .int .u16 0], 48) (by simp)
    have AG : Blk v (w1.heap.size) #[.int .u8 h.tos, .int .u16 h.id, .int .u8 h.fl, .int .u16 h.off, .int .u8 h.ttl, .int .u8 h.pr, .int .u32 h.src, .int .u32 h.dst, SV h.o] 121 := hF (w1.heap.size, #[.int .u8 h.tos, .int .u16 h.id, .int .u8 h.fl, .int .u16 h.off, .int .u8 h.ttl, .int .u8 h.pr, .int .u32 h.src, .int .u32 h.dst, SV h.o], 121) (by simp)
    have XG : Blk v (w2.heap.size) #[.int .u16 k0, .int .u16 p1, .int .u16 0, .int .u16 0] 48 := by
      have d0 : World.cell? v ⟨w2.heap.size, 0, none⟩ = some (.int .u16 k0) := hCl (w2.heap.size, 0, .int .u16 k0) (by simp) (by show World.cell? _ _ = _; rw [cX]; rfl)
      have d1 : World.cell? v ⟨w2.heap.size, 1, none⟩ = some (.int .u16 p1) := hd 10 _ rfl 1 (by simp) _ rfl
      have d2 : World.cell? v ⟨w2.heap.size, 2, none⟩ = some (.int .u16 0) := hCl (w2.heap.size, 2, .int .u16 0) (by simp) (by show World.cell? _ _ = _; rw [cX]; rfl)
      have d3 : World.cell? v ⟨w2.heap.size, 3, none⟩ = some (.int .u16 0) := hCl (w2.heap.size, 3, .int .u16 0) (by simp) (by show World.cell? _ _ = _; rw [cX]; rfl)
      exact Fct.of_cells (f := (w2.heap.size, #[.int .u16 k0, .int .u16 p1, .int .u16 0, .int .u16 0], 48)) (hRm _ (by simp)) (fun j hj => by match j, hj with | 0, _ => exact d0 | 1, _ => exact d1 | 2, _ => exact d2 | 3, _ => exact d3 | j + 4, h => exact absurd h (by show ¬ j + 4 < 4; omega))
    have gG := g3.trans hb
    rw [frame_eta a 85 hs, hf]
    simp only [List.range, List.range.loop, List.map_cons, List.map_nil, e41, e42, e43, e44, e45, e46, e47, e48, e49, e50, ho 0 (by kernel_rfl), ho 1 (by kernel_rfl), ho 2 (by kernel_rfl), ho 3 (by kernel_rfl), ho 4 (by kernel_rfl), ho 5 (by kernel_rfl), ho 6 (by kernel_rfl), ho 7 (by kernel_rfl), ho 8 (by kernel_rfl), ho 9 (by kernel_rfl), ho 10 (by kernel_rfl), ho 11 (by kernel_rfl), ho 12 (by kernel_rfl), ho 13 (by kernel_rfl), ho 14 (by kernel_rfl), ho 15 (by kernel_rfl), ho 16 (by kernel_rfl), ho 17 (by kernel_rfl), ho 18 (by kernel_rfl), ho 19 (by kernel_rfl), ho 20 (by kernel_rfl), ho 21 (by kernel_rfl), ho 22 (by kernel_rfl), ho 23 (by kernel_rfl), ho 24 (by kernel_rfl), ho 25 (by kernel_rfl), ho 26 (by kernel_rfl), ho 27 (by kernel_rfl), ho 28 (by kernel_rfl), ho 29 (by kernel_rfl), ho 30 (by kernel_rfl), ho 31 (by kernel_rfl), ho 32 (by kernel_rfl), ho 33 (by kernel_rfl), ho 34 (by kernel_rfl), ho 35 (by kernel_rfl), ho 36 (by kernel_rfl), ho 37 (by kernel_rfl), ho 38 (by kernel_rfl), ho 39 (by kernel_rfl), ho 40 (by kernel_rfl), ho 51 (by kernel_rfl), ho 52 (by kernel_rfl), ho 53 (by kernel_rfl), ho 54 (by kernel_rfl), ho 55 (by kernel_rfl), ho 56 (by kernel_rfl), ho 57 (by kernel_rfl), ho 58 (by kernel_rfl), ho 59 (by kernel_rfl), ho 60 (by kernel_rfl), ho 61 (by kernel_rfl), ho 62 (by kernel_rfl), ho 63 (by kernel_rfl), ho 64 (by kernel_rfl), ho 65 (by kernel_rfl), ho 66 (by kernel_rfl), ho 67 (by kernel_rfl), ho 68 (by kernel_rfl), ho 69 (by kernel_rfl), ho 70 (by kernel_rfl), ho 71 (by kernel_rfl), ho 72 (by kernel_rfl), ho 73 (by kernel_rfl), ho 74 (by kernel_rfl), ho 75 (by kernel_rfl), ho 76 (by kernel_rfl), ho 77 (by kernel_rfl), ho 78 (by kernel_rfl), ho 79 (by kernel_rfl), ho 80 (by kernel_rfl), ho 81 (by kernel_rfl), ho 82 (by kernel_rfl), ho 83 (by kernel_rfl), ho 84 (by kernel_rfl)]
    clear hd hF hRm hCl ho hf hs hb e41 e42 e43 e44 e45 e46 e47 e48 e49 e50
    clear a
    replace cR := RG.cell; replace fR := RG.frozen; replace zR := RG.size
    replace cA := AG.cell; replace fA := AG.frozen; replace zA := AG.size
    replace cX := XG.cell; replace fX := XG.frozen; replace zX := XG.size
    go_simp
    go_wp2_with fail
    go_meet
    exact ⟨rfl, gG, RG, AG, XG⟩
  case rest =>
    obtain ⟨rfl, g10, R10, A10, X10⟩ := hcut
    clear cA fA zA cR fR zR cX fX zX
    have cR := R10.cell; have fR := R10.frozen; have zR := R10.size; have cA := A10.cell; have fA := A10.frozen; have zA := A10.size; have cX := X10.cell; have fX := X10.frozen; have zX := X10.size; have hz10 := g10.size
    go_upto_region 6 with (fail)
    go_cut [59] (fun s59 wx => s59 = .int .u16 p2 ∧ Below w.heap.size w wx ∧ Blk wx (w.heap.size) #[.int .u16 0, .int .u16 0, .int .u16 0, .int .u16 0] 48 ∧ Blk wx (w1.heap.size) #[.int .u8 h.tos, .int .u16 h.id, .int .u8 h.fl, .int .u16 h.off, .int .u8 h.ttl, .int .u8 h.pr, .int .u32 h.src, .int .u32 h.dst, SV h.o] 121 ∧ Blk wx (w2.heap.size) #[.int .u16 k0, .int .u16 p1, .int .u16 p2, .int .u16 0] 48)
    case first =>
      refine wp_region_guarS (w.heap.size) (w2.heap.size + 1) [(w.heap.size, #[.int .u16 0, .int .u16 0, .int .u16 0, .int .u16 0], 48), (w1.heap.size, #[.int .u8 h.tos, .int .u16 h.id, .int .u8 h.fl, .int .u16 h.off, .int .u8 h.ttl, .int .u8 h.pr, .int .u32 h.src, .int .u32 h.dst, SV h.o], 121)] [] [(w2.heap.size, #[.int .u16 k0, .int .u16 p1, .int .u16 p2, .int .u16 0], 48)] [(w2.heap.size, 0, .int .u16 k0), (w2.heap.size, 1, .int .u16 p1), (w2.heap.size, 2, .int .u16 p2), (w2.heap.size, 3, .int .u16 0)] [.val (SV b), .val (.int .u8 (y2)), .val (.int .i64 (y2)), .val (.int .i64 (256 * y2)), .val (SV b), .val (.int .u8 (y3)), .val (.int .i64 (y3)), .val (.int .i64 (p2)), .val (.int .u16 (p2)), .val (.pointer (some ⟨w2.heap.size, 2, none⟩)), .sets [2]] (by kernel_rfl) (by kernel_rfl) (by omega) (by omega) (by intro f m; simp only [List.mem_cons, List.not_mem_nil, or_false, List.append_nil, List.nil_append, List.cons_append] at m; rcases m with rfl | rfl <;> ((show Blk _ _ _ _) <;> (repeat' (first | (with_reducible (first | assumption | exact Blk.alloc_new _ _ _ (by first | rfl | (simp; done) | omega) | apply Blk.drewN | apply Blk.drew | apply Blk.alloc_old | apply Blk.set_same | apply Blk.set_other)) | (show (_ : Nat) ≠ _; first | omega | (simp; done) | (simp; omega)) | ((simp only [List.setIfInBounds_toArray, List.set_cons_succ, List.set_cons_zero]); (with_reducible exact rfl)) | (with_reducible exact rfl) | (show (_ : Array Value) = _; exact rfl))))) (by intro f m; simp only [List.mem_cons, List.not_mem_nil, or_false, List.append_nil, List.nil_append, List.cons_append] at m; rcases m with rfl <;> (first | (exact ⟨#[.int .u16 k0, .int .u16 p1, .int .u16 0, .int .u16 0], rfl, by (repeat' (first | (with_reducible (first | assumption | exact Blk.alloc_new _ _ _ (by first | rfl | (simp; done) | omega) | apply Blk.drewN | apply Blk.drew | apply Blk.alloc_old | apply Blk.set_same | apply Blk.set_other)) | (show (_ : Nat) ≠ _; first | omega | (simp; done) | (simp; omega)) | ((simp only [List.setIfInBounds_toArray, List.set_cons_succ, List.set_cons_zero]); (with_reducible exact rfl)) | (with_reducible exact rfl) | (show (_ : Array Value) = _; exact rfl)))⟩))) ?_ ?_
      · refine ⟨?_, ?_, ?_, ?_, ?_, ?_, ?_, ?_, ?_, ?_, ?_, trivial⟩
        · intro a v c
          have e4 : a.eval (.tmp 4) = SV b := (c.off 4 (by kernel_rfl)).trans rfl
          have f4 := (eval_opt a 4).trans e4
          exact gvalS (SV b) (by simp only [execOp, f4, e4]; go_simp) rfl
        · intro a v c
          have e51 : a.eval (.tmp 51) = SV b := c.dep 0 _ (by kernel_rfl) rfl
          have f51 := (eval_opt a 51).trans e51
          exact gvalS (.int .u8 (y2)) (by simp only [execOp, f51, e51]; go_simp) rfl
        · intro a v c
          have e52 : a.eval (.tmp 52) = .int .u8 (y2) := c.dep 1 _ (by kernel_rfl) rfl
          have f52 := (eval_opt a 52).trans e52
          exact gvalS (.int .i64 (y2)) (by simp only [execOp, f52, e52]; go_simp) rfl
        · intro a v c
          have e53 : a.eval (.tmp 53) = .int .i64 (y2) := c.dep 2 _ (by kernel_rfl) rfl
          have f53 := (eval_opt a 53).trans e53
          exact gvalS (.int .i64 (256 * y2)) (by simp only [execOp, f53, e53]; go_simp) rfl
        · intro a v c
          have e4 : a.eval (.tmp 4) = SV b := (c.off 4 (by kernel_rfl)).trans rfl
          have f4 := (eval_opt a 4).trans e4
          exact gvalS (SV b) (by simp only [execOp, f4, e4]; go_simp) rfl
        · intro a v c
          have e55 : a.eval (.tmp 55) = SV b := c.dep 4 _ (by kernel_rfl) rfl
          have f55 := (eval_opt a 55).trans e55
          exact gvalS (.int .u8 (y3)) (by simp only [execOp, f55, e55]; go_simp) rfl
        · intro a v c
          have e56 : a.eval (.tmp 56) = .int .u8 (y3) := c.dep 5 _ (by kernel_rfl) rfl
          have f56 := (eval_opt a 56).trans e56
          exact gvalS (.int .i64 (y3)) (by simp only [execOp, f56, e56]; go_simp) rfl
        · intro a v c
          have e54 : a.eval (.tmp 54) = .int .i64 (256 * y2) := c.dep 3 _ (by kernel_rfl) rfl
          have e57 : a.eval (.tmp 57) = .int .i64 (y3) := c.dep 6 _ (by kernel_rfl) rfl
          have f54 := (eval_opt a 54).trans e54
          have f57 := (eval_opt a 57).trans e57
          exact gvalS (.int .i64 (p2)) (by simp only [execOp, f54, f57, e54, e57]; go_simp) rfl
        · intro a v c
          have e58 : a.eval (.tmp 58) = .int .i64 (p2) := c.dep 7 _ (by kernel_rfl) rfl
          have f58 := (eval_opt a 58).trans e58
          exact gvalS (.int .u16 (p2)) (by simp only [execOp, f58, e58]; go_simp) rfl
        · intro a v c
          have e5 : a.eval (.tmp 5) = .pointer (some ⟨w2.heap.size, 0, none⟩) := (c.off 5 (by kernel_rfl)).trans rfl
          have f5 := (eval_opt a 5).trans e5
          exact gvalS (.pointer (some ⟨w2.heap.size, 2, none⟩)) (by simp only [execOp, f5, e5]; go_simp) rfl
        · intro a v c
          have e60 : a.eval (.tmp 60) = .pointer (some ⟨w2.heap.size, 2, none⟩) := c.dep 9 _ (by kernel_rfl) rfl
          have e59 : a.eval (.tmp 59) = .int .u16 (p2) := c.dep 8 _ (by kernel_rfl) rfl
          exact gpartS [2] (w2.heap.size, #[.int .u16 k0, .int .u16 p1, .int .u16 p2, .int .u16 0], 48) (w2.heap.size) 2 (.int .u16 p2) #[.int .u16 p2] 46 (.tmp 60) (.tmp 59) rfl e60 e59 rfl (c.room (w2.heap.size, #[.int .u16 k0, .int .u16 p1, .int .u16 p2, .int .u16 0], 48) (by simp)) rfl (by simp) (by kernel_rfl) (by simp [Value.oneCell']) rfl (by intro q hq c hcq; simp only [List.mem_cons, List.not_mem_nil, or_false] at hq; rcases hq with rfl <;> (have hcq : some _ = some c := hcq; cases hcq; exact ⟨rfl, by simp, by simp⟩)) (by omega) (by omega) (by intro f m; simp only [List.mem_cons, List.not_mem_nil, or_false] at m; rcases m with rfl | rfl <;> ((show _ ≠ _) <;> (first | omega | (simp; omega)))) (fun _ h => absurd h (by simp)) (by intro c m e l1 l2; simp only [List.mem_cons, List.not_mem_nil, or_false] at m; rcases m with rfl | rfl | rfl | rfl <;> (first | rfl | (simp; done) | (exfalso; simp at l1; done) | (exfalso; simp at l2; done) | (exfalso; simp only at l1 l2; simp at l2; omega) | (exfalso; omega)))
      intro a v hb hF hRm hCl hd ho hs hf
      have e51 : a.eval (.tmp 51) = SV b := hd 0 _ rfl
      have e52 : a.eval (.tmp 52) = .int .u8 (y2) := hd 1 _ rfl
      have e53 : a.eval (.tmp 53) = .int .i64 (y2) := hd 2 _ rfl
      have e54 : a.eval (.tmp 54) = .int .i64 (256 * y2) := hd 3 _ rfl
      have e55 : a.eval (.tmp 55) = SV b := hd 4 _ rfl
      have e56 : a.eval (.tmp 56) = .int .u8 (y3) := hd 5 _ rfl
      have e57 : a.eval (.tmp 57) = .int .i64 (y3) := hd 6 _ rfl
      have e58 : a.eval (.tmp 58) = .int .i64 (p2) := hd 7 _ rfl
      have e59 : a.eval (.tmp 59) = .int .u16 (p2) := hd 8 _ rfl
      have e60 : a.eval (.tmp 60) = .pointer (some ⟨w2.heap.size, 2, none⟩) := hd 9 _ rfl
      have RG : Blk v (w.heap.size) #[.int .u16 0, .int .u16 0, .int .u16 0, .int .u16 0] 48 := hF (w.heap.size, #[.int .u16 0, .int .u16 0, .int .u16 0, .int .u16 0], 48) (by simp)
      have AG : Blk v (w1.heap.size) #[.int .u8 h.tos, .int .u16 h.id, .int .u8 h.fl, .int .u16 h.off, .int .u8 h.ttl, .int .u8 h.pr, .int .u32 h.src, .int .u32 h.dst, SV h.o] 121 := hF (w1.heap.size, #[.int .u8 h.tos, .int .u16 h.id, .int .u8 h.fl, .int .u16 h.off, .int .u8 h.ttl, .int .u8 h.pr, .int .u32 h.src, .int .u32 h.dst, SV h.o], 121) (by simp)
      have XG : Blk v (w2.heap.size) #[.int .u16 k0, .int .u16 p1, .int .u16 p2, .int .u16 0] 48 := by
        have d0 : World.cell? v ⟨w2.heap.size, 0, none⟩ = some (.int .u16 k0) := hCl (w2.heap.size, 0, .int .u16 k0) (by simp) (by show World.cell? _ _ = _; rw [cX]; rfl)
        have d1 : World.cell? v ⟨w2.heap.size, 1, none⟩ = some (.int .u16 p1) := hCl (w2.heap.size, 1, .int .u16 p1) (by simp) (by show World.cell? _ _ = _; rw [cX]; rfl)
        have d2 : World.cell? v ⟨w2.heap.size, 2, none⟩ = some (.int .u16 p2) := hd 10 _ rfl 2 (by simp) _ rfl
        have d3 : World.cell? v ⟨w2.heap.size, 3, none⟩ = some (.int .u16 0) := hCl (w2.heap.size, 3, .int .u16 0) (by simp) (by show World.cell? _ _ = _; rw [cX]; rfl)
        exact Fct.of_cells (f := (w2.heap.size, #[.int .u16 k0, .int .u16 p1, .int .u16 p2, .int .u16 0], 48)) (hRm _ (by simp)) (fun j hj => by match j, hj with | 0, _ => exact d0 | 1, _ => exact d1 | 2, _ => exact d2 | 3, _ => exact d3 | j + 4, h => exact absurd h (by show ¬ j + 4 < 4; omega))
      have gG := g10.trans hb
      rw [frame_eta a 85 hs, hf]
      simp only [List.range, List.range.loop, List.map_cons, List.map_nil, e51, e52, e53, e54, e55, e56, e57, e58, e59, e60, ho 0 (by kernel_rfl), ho 1 (by kernel_rfl), ho 2 (by kernel_rfl), ho 3 (by kernel_rfl), ho 4 (by kernel_rfl), ho 5 (by kernel_rfl), ho 6 (by kernel_rfl), ho 7 (by kernel_rfl), ho 8 (by kernel_rfl), ho 9 (by kernel_rfl), ho 10 (by kernel_rfl), ho 11 (by kernel_rfl), ho 12 (by kernel_rfl), ho 13 (by kernel_rfl), ho 14 (by kernel_rfl), ho 15 (by kernel_rfl), ho 16 (by kernel_rfl), ho 17 (by kernel_rfl), ho 18 (by kernel_rfl), ho 19 (by kernel_rfl), ho 20 (by kernel_rfl), ho 21 (by kernel_rfl), ho 22 (by kernel_rfl), ho 23 (by kernel_rfl), ho 24 (by kernel_rfl), ho 25 (by kernel_rfl), ho 26 (by kernel_rfl), ho 27 (by kernel_rfl), ho 28 (by kernel_rfl), ho 29 (by kernel_rfl), ho 30 (by kernel_rfl), ho 31 (by kernel_rfl), ho 32 (by kernel_rfl), ho 33 (by kernel_rfl), ho 34 (by kernel_rfl), ho 35 (by kernel_rfl), ho 36 (by kernel_rfl), ho 37 (by kernel_rfl), ho 38 (by kernel_rfl), ho 39 (by kernel_rfl), ho 40 (by kernel_rfl), ho 41 (by kernel_rfl), ho 42 (by kernel_rfl), ho 43 (by kernel_rfl), ho 44 (by kernel_rfl), ho 45 (by kernel_rfl), ho 46 (by kernel_rfl), ho 47 (by kernel_rfl), ho 48 (by kernel_rfl), ho 49 (by kernel_rfl), ho 50 (by kernel_rfl), ho 61 (by kernel_rfl), ho 62 (by kernel_rfl), ho 63 (by kernel_rfl), ho 64 (by kernel_rfl), ho 65 (by kernel_rfl), ho 66 (by kernel_rfl), ho 67 (by kernel_rfl), ho 68 (by kernel_rfl), ho 69 (by kernel_rfl), ho 70 (by kernel_rfl), ho 71 (by kernel_rfl), ho 72 (by kernel_rfl), ho 73 (by kernel_rfl), ho 74 (by kernel_rfl), ho 75 (by kernel_rfl), ho 76 (by kernel_rfl), ho 77 (by kernel_rfl), ho 78 (by kernel_rfl), ho 79 (by kernel_rfl), ho 80 (by kernel_rfl), ho 81 (by kernel_rfl), ho 82 (by kernel_rfl), ho 83 (by kernel_rfl), ho 84 (by kernel_rfl)]
      clear hd hF hRm hCl ho hf hs hb e51 e52 e53 e54 e55 e56 e57 e58 e59 e60
      clear a
      replace cR := RG.cell; replace fR := RG.frozen; replace zR := RG.size
      replace cA := AG.cell; replace fA := AG.frozen; replace zA := AG.size
      replace cX := XG.cell; replace fX := XG.frozen; replace zX := XG.size
      go_simp
      go_wp2_with fail
      go_meet
      exact ⟨rfl, gG, RG, AG, XG⟩
    case rest =>
      obtain ⟨rfl, g11, R11, A11, X11⟩ := hcut
      clear cA fA zA cR fR zR cX fX zX
      have cR := R11.cell; have fR := R11.frozen; have zR := R11.size; have cA := A11.cell; have fA := A11.frozen; have zA := A11.size; have cX := X11.cell; have fX := X11.frozen; have zX := X11.size; have hz11 := g11.size
      go_wp2_with fail
      refine (rxor (h.src / 65536) (h.src % 65536) x1 _ (by omega) (by omega) HX1.out).mono ?_
      rintro e w5 ⟨rfl, hb5⟩
      have R5 : Blk w5 (w.heap.size) #[.int .u16 0, .int .u16 0, .int .u16 0, .int .u16 0] 48 := Blk.below (by (repeat' (first | (with_reducible (first | assumption | exact Blk.alloc_new _ _ _ (by first | rfl | (simp; done) | omega) | apply Blk.drewN | apply Blk.drew | apply Blk.alloc_old | apply Blk.set_same | apply Blk.set_other)) | (show (_ : Nat) ≠ _; first | omega | (simp; done) | (simp; omega)) | ((simp only [List.setIfInBounds_toArray, List.set_cons_succ, List.set_cons_zero]); (with_reducible exact rfl)) | (with_reducible exact rfl) | (show (_ : Array Value) = _; exact rfl)))) hb5 (by first | (simp; done) | omega | (simp; omega))
      have A5 : Blk w5 (w1.heap.size) #[.int .u8 h.tos, .int .u16 h.id, .int .u8 h.fl, .int .u16 h.off, .int .u8 h.ttl, .int .u8 h.pr, .int .u32 h.src, .int .u32 h.dst, SV h.o] 121 := Blk.below (by (repeat' (first | (with_reducible (first | assumption | exact Blk.alloc_new _ _ _ (by first | rfl | (simp; done) | omega) | apply Blk.drewN | apply Blk.drew | apply Blk.alloc_old | apply Blk.set_same | apply Blk.set_other)) | (show (_ : Nat) ≠ _; first | omega | (simp; done) | (simp; omega)) | ((simp only [List.setIfInBounds_toArray, List.set_cons_succ, List.set_cons_zero]); (with_reducible exact rfl)) | (with_reducible exact rfl) | (show (_ : Array Value) = _; exact rfl)))) hb5 (by first | (simp; done) | omega | (simp; omega))
      have X5 : Blk w5 (w2.heap.size) #[.int .u16 k0, .int .u16 p1, .int .u16 p2, .int .u16 0] 48 := Blk.below (by (repeat' (first | (with_reducible (first | assumption | exact Blk.alloc_new _ _ _ (by first | rfl | (simp; done) | omega) | apply Blk.drewN | apply Blk.drew | apply Blk.alloc_old | apply Blk.set_same | apply Blk.set_other)) | (show (_ : Nat) ≠ _; first | omega | (simp; done) | (simp; omega)) | ((simp only [List.setIfInBounds_toArray, List.set_cons_succ, List.set_cons_zero]); (with_reducible exact rfl)) | (with_reducible exact rfl) | (show (_ : Array Value) = _; exact rfl)))) hb5 (by first | (simp; done) | omega | (simp; omega))
      have g5 : Below w.heap.size w w5 := by refine Below.trans ?_ (hb5.mono ?_) <;> (repeat' (first | (with_reducible (first | exact Below.refl _ _ | assumption | refine below_drewN ?_ _ | refine Below.drew ?_ | refine Below.alloc ?_ ?_ _ | refine Below.setCell ?_ ?_ _)) | go_size))
      have hz5 := hb5.size
      (try simp at hz5)
      clear hb5
      replace cR := R5.cell
      replace fR := R5.frozen
      replace zR := R5.size
      replace cA := A5.cell
      replace fA := A5.frozen
      replace zA := A5.size
      replace cX := X5.cell
      replace fX := X5.frozen
      replace zX := X5.size
      go_wp2_with fail
      refine (rxor (h.dst / 65536) (h.dst % 65536) x2 _ (by omega) (by omega) HX2.out).mono ?_
      rintro e w6 ⟨rfl, hb6⟩
      have R6 : Blk w6 (w.heap.size) #[.int .u16 0, .int .u16 0, .int .u16 0, .int .u16 0] 48 := Blk.below (by (repeat' (first | (with_reducible (first | assumption | exact Blk.alloc_new _ _ _ (by first | rfl | (simp; done) | omega) | apply Blk.drewN | apply Blk.drew | apply Blk.alloc_old | apply Blk.set_same | apply Blk.set_other)) | (show (_ : Nat) ≠ _; first | omega | (simp; done) | (simp; omega)) | ((simp only [List.setIfInBounds_toArray, List.set_cons_succ, List.set_cons_zero]); (with_reducible exact rfl)) | (with_reducible exact rfl) | (show (_ : Array Value) = _; exact rfl)))) hb6 (by first | (simp; done) | omega | (simp; omega))
      have A6 : Blk w6 (w1.heap.size) #[.int .u8 h.tos, .int .u16 h.id, .int .u8 h.fl, .int .u16 h.off, .int .u8 h.ttl, .int .u8 h.pr, .int .u32 h.src, .int .u32 h.dst, SV h.o] 121 := Blk.below (by (repeat' (first | (with_reducible (first | assumption | exact Blk.alloc_new _ _ _ (by first | rfl | (simp; done) | omega) | apply Blk.drewN | apply Blk.drew | apply Blk.alloc_old | apply Blk.set_same | apply Blk.set_other)) | (show (_ : Nat) ≠ _; first | omega | (simp; done) | (simp; omega)) | ((simp only [List.setIfInBounds_toArray, List.set_cons_succ, List.set_cons_zero]); (with_reducible exact rfl)) | (with_reducible exact rfl) | (show (_ : Array Value) = _; exact rfl)))) hb6 (by first | (simp; done) | omega | (simp; omega))
      have X6 : Blk w6 (w2.heap.size) #[.int .u16 k0, .int .u16 p1, .int .u16 p2, .int .u16 0] 48 := Blk.below (by (repeat' (first | (with_reducible (first | assumption | exact Blk.alloc_new _ _ _ (by first | rfl | (simp; done) | omega) | apply Blk.drewN | apply Blk.drew | apply Blk.alloc_old | apply Blk.set_same | apply Blk.set_other)) | (show (_ : Nat) ≠ _; first | omega | (simp; done) | (simp; omega)) | ((simp only [List.setIfInBounds_toArray, List.set_cons_succ, List.set_cons_zero]); (with_reducible exact rfl)) | (with_reducible exact rfl) | (show (_ : Array Value) = _; exact rfl)))) hb6 (by first | (simp; done) | omega | (simp; omega))
      have g6 : Below w.heap.size w w6 := by refine Below.trans ?_ (hb6.mono ?_) <;> (repeat' (first | (with_reducible (first | exact Below.refl _ _ | assumption | refine below_drewN ?_ _ | refine Below.drew ?_ | refine Below.alloc ?_ ?_ _ | refine Below.setCell ?_ ?_ _)) | go_size))
      have hz6 := hb6.size
      (try simp at hz6)
      clear hb6
      replace cR := R6.cell
      replace fR := R6.frozen
      replace zR := R6.size
      replace cA := A6.cell
      replace fA := A6.frozen
      replace zA := A6.size
      replace cX := X6.cell
      replace fX := X6.frozen
      replace zX := X6.size
      go_wp2_with fail
      refine (rxor x1 x2 k3 _ hr1 hr2 HK3.out).mono ?_
      rintro e w7 ⟨rfl, hb7⟩
      have R7 : Blk w7 (w.heap.size) #[.int .u16 0, .int .u16 0, .int .u16 0, .int .u16 0] 48 := Blk.below (by (repeat' (first | (with_reducible (first | assumption | exact Blk.alloc_new _ _ _ (by first | rfl | (simp; done) | omega) | apply Blk.drewN | apply Blk.drew | apply Blk.alloc_old | apply Blk.set_same | apply Blk.set_other)) | (show (_ : Nat) ≠ _; first | omega | (simp; done) | (simp; omega)) | ((simp only [List.setIfInBounds_toArray, List.set_cons_succ, List.set_cons_zero]); (with_reducible exact rfl)) | (with_reducible exact rfl) | (show (_ : Array Value) = _; exact rfl)))) hb7 (by first | (simp; done) | omega | (simp; omega))
      have A7 : Blk w7 (w1.heap.size) #[.int .u8 h.tos, .int .u16 h.id, .int .u8 h.fl, .int .u16 h.off, .int .u8 h.ttl, .int .u8 h.pr, .int .u32 h.src, .int .u32 h.dst, SV h.o] 121 := Blk.below (by (repeat' (first | (with_reducible (first | assumption | exact Blk.alloc_new _ _ _ (by first | rfl | (simp; done) | omega) | apply Blk.drewN | apply Blk.drew | apply Blk.alloc_old | apply Blk.set_same | apply Blk.set_other)) | (show (_ : Nat) ≠ _; first | omega | (simp; done) | (simp; omega)) | ((simp only [List.setIfInBounds_toArray, List.set_cons_succ, List.set_cons_zero]); (with_reducible exact rfl)) | (with_reducible exact rfl) | (show (_ : Array Value) = _; exact rfl)))) hb7 (by first | (simp; done) | omega | (simp; omega))
      have X7 : Blk w7 (w2.heap.size) #[.int .u16 k0, .int .u16 p1, .int .u16 p2, .int .u16 0] 48 := Blk.below (by (repeat' (first | (with_reducible (first | assumption | exact Blk.alloc_new _ _ _ (by first | rfl | (simp; done) | omega) | apply Blk.drewN | apply Blk.drew | apply Blk.alloc_old | apply Blk.set_same | apply Blk.set_other)) | (show (_ : Nat) ≠ _; first | omega | (simp; done) | (simp; omega)) | ((simp only [List.setIfInBounds_toArray, List.set_cons_succ, List.set_cons_zero]); (with_reducible exact rfl)) | (with_reducible exact rfl) | (show (_ : Array Value) = _; exact rfl)))) hb7 (by first | (simp; done) | omega | (simp; omega))
      have g7 : Below w.heap.size w w7 := by refine Below.trans ?_ (hb7.mono ?_) <;> (repeat' (first | (with_reducible (first | exact Below.refl _ _ | assumption | refine below_drewN ?_ _ | refine Below.drew ?_ | refine Below.alloc ?_ ?_ _ | refine Below.setCell ?_ ?_ _)) | go_size))
      have hz7 := hb7.size
      (try simp at hz7)
      clear hb7
      replace cR := R7.cell
      replace fR := R7.frozen
      replace zR := R7.size
      replace cA := A7.cell
      replace fA := A7.frozen
      replace zA := A7.size
      replace cX := X7.cell
      replace fX := X7.frozen
      replace zX := X7.size
      go_wp2_with (first | (refine store_blk 48 (.tmp 2) (.tmp 84) (w.heap.size) #[.int .u16 0, .int .u16 0, .int .u16 0, .int .u16 0] #[.int .u16 k0, .int .u16 p1, .int .u16 p2, .int .u16 k3] 48 (by rfl) (by rfl) (by rfl) (by rfl) (by (repeat' (first | (with_reducible (first | assumption | exact Blk.alloc_new _ _ _ (by first | rfl | (simp; done) | omega) | apply Blk.drewN | apply Blk.drew | apply Blk.alloc_old | apply Blk.set_same | apply Blk.set_other)) | (show (_ : Nat) ≠ _; first | omega | (simp; done) | (simp; omega)) | ((simp only [List.setIfInBounds_toArray, List.set_cons_succ, List.set_cons_zero]); (with_reducible exact rfl)) | (with_reducible exact rfl) | (show (_ : Array Value) = _; exact rfl)))) rfl (by kernel_rfl) (by simp [Value.oneCell']) ?_; intro v Bv kB kO hs; have gv : Below w.heap.size w v := kB _ _ (by first | (simp; done) | omega | (simp; omega)) (by (repeat' (first | (with_reducible (first | exact Below.refl _ _ | assumption | refine below_drewN ?_ _ | refine Below.drew ?_ | refine Below.alloc ?_ ?_ _ | refine Below.setCell ?_ ?_ _)) | go_size))); clear kB kO hs))
      refine bodyPost_ret (v := .agg #[.int .u16 k0, .int .u16 p1, .int .u16 p2, .int .u16 k3]) ?_ ?_ ?_
      · exact results_blk (w.heap.size) #[.int .u16 k0, .int .u16 p1, .int .u16 p2, .int .u16 k3] 48 _ _ _ Try.results30 (by rfl) Bv Try.underlying48 rfl (by kernel_rfl)
      · rfl
      · exact ⟨rfl, gv⟩
end Go.Proofs.Ytljpiofpfankoaa
