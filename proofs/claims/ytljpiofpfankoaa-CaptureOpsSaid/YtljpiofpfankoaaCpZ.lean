/-
  CaptureOps: which operations bring the frames of any capture, or why there are none; they bring each packet at its frame's tick. Conditions: none.
-/
import Derived.Test.YtljpiofpfankoaaCpR
import Derived.Test.YtljpiofpfankoaaGuarS
import Derived.Test.YtljpiofpfankoaaGuarG
namespace Go.Proofs.Ytljpiofpfankoaa
open Go.RowKit Go.Sort
set_option linter.unusedVariables false
set_option linter.unusedSimpArgs false
set_option maxRecDepth 100000 in
set_option maxHeartbeats 4000000 in
theorem rPacket_bad (l : List Int) (i most : Int) (w : World) (hl : Byt l) (hb : l.length ≤ 4611686018427387904) (hi : 0 ≤ i ∧ i ≤ 1000) (hmo : -9223372036854775808 ≤ most ∧ most ≤ 9223372036854775807) (h0 : badR l ≠ 0) :
    Calls Try.prog 46 #[.int .i64 i, SV l, .int .i64 most] w fun e w' => e = .returned (.agg #[.int .u64 i, .int .i64 l.length, .int .u16 0, .int .u16 0, .int .u16 0, .int .u16 0]) ∧ Below w.heap.size w w' := by
  have ks := sv_size
  have hwi : IntKind.u64.wrap i = i := IntWalk.u64_in _ ⟨by omega, by omega⟩
  have KB := hide (show ∀ v, Calls Try.prog 28 #[SV l] v fun e w' => e = .returned (.int .i64 (badR l)) ∧ Below v.heap.size v w' from fun v => by have h := ipBad l v hl hb; exact h)
  have hx : (badR l == 0) = false := beq_eq_false_iff_ne.2 h0
  go_enter Try.func46, Try.ntmps46
  go_wp2_with fail
  refine (KB.out _).mono ?_
  rintro e w1 ⟨rfl, hb1⟩
  have R1 : Blk w1 (w.heap.size) #[.int .u64 0, .int .i64 0, .int .u16 0, .int .u16 0, .int .u16 0, .int .u16 0] 50 := Blk.below (by (repeat' (first | (with_reducible (first | assumption | exact Blk.alloc_new _ _ _ (by first | rfl | (simp; done) | omega) | apply Blk.drewN | apply Blk.drew | apply Blk.alloc_old | apply Blk.set_same | apply Blk.set_other)) | (show (_ : Nat) ≠ _; first | omega | (simp; done) | (simp; omega)) | ((simp only [List.setIfInBounds_toArray, List.set_cons_succ, List.set_cons_zero]); (with_reducible exact rfl)) | (with_reducible exact rfl) | (show (_ : Array Value) = _; exact rfl)))) hb1 (by first | (simp; done) | omega | (simp; omega))
  have X1 : Blk w1 (w.heap.size + 1) #[.int .u64 i, .int .i64 l.length, .int .u16 0, .int .u16 0, .int .u16 0, .int .u16 0] 50 := Blk.below (by (repeat' (first | (with_reducible (first | assumption | exact Blk.alloc_new _ _ _ (by first | rfl | (simp; done) | omega) | apply Blk.drewN | apply Blk.drew | apply Blk.alloc_old | apply Blk.set_same | apply Blk.set_other)) | (show (_ : Nat) ≠ _; first | omega | (simp; done) | (simp; omega)) | ((simp only [List.setIfInBounds_toArray, List.set_cons_succ, List.set_cons_zero]); (with_reducible exact rfl)) | (with_reducible exact rfl) | (show (_ : Array Value) = _; exact rfl)))) hb1 (by first | (simp; done) | omega | (simp; omega))
  have g1 : Below w.heap.size w w1 := by refine Below.trans ?_ (hb1.mono ?_) <;> (repeat' (first | (with_reducible (first | exact Below.refl _ _ | assumption | refine below_drewN ?_ _ | refine Below.drew ?_ | refine Below.alloc ?_ ?_ _ | refine Below.setCell ?_ ?_ _)) | go_size))
  have hz1 := hb1.size
  (try simp at hz1)
  clear hb1
  have cR := R1.cell
  have fR := R1.frozen
  have zR := R1.size
  have cX := X1.cell
  have fX := X1.frozen
  have zX := X1.size
  go_wp2
  refine bp_forget (fun v => Below w.heap.size w v ∧ Blk v (w.heap.size) #[.int .u64 i, .int .i64 l.length, .int .u16 0, .int .u16 0, .int .u16 0, .int .u16 0] 50) ⟨by (repeat' (first | (with_reducible (first | exact Below.refl _ _ | assumption | refine below_drewN ?_ _ | refine Below.drew ?_ | refine Below.alloc ?_ ?_ _ | refine Below.setCell ?_ ?_ _)) | go_size)), by (repeat' (first | (with_reducible (first | assumption | exact Blk.alloc_new _ _ _ (by first | rfl | (simp; done) | omega) | apply Blk.drewN | apply Blk.drew | apply Blk.alloc_old | apply Blk.set_same | apply Blk.set_other)) | (show (_ : Nat) ≠ _; first | omega | (simp; done) | (simp; omega)) | ((simp only [List.setIfInBounds_toArray, List.set_cons_succ, List.set_cons_zero]); (with_reducible exact rfl)) | (with_reducible exact rfl) | (show (_ : Array Value) = _; exact rfl)))⟩ ?_
  rintro v ⟨gv, Bv⟩
  refine bodyPost_ret (v := .agg #[.int .u64 i, .int .i64 l.length, .int .u16 0, .int .u16 0, .int .u16 0, .int .u16 0]) ?_ ?_ ?_
  · exact results_blk (w.heap.size) #[.int .u64 i, .int .i64 l.length, .int .u16 0, .int .u16 0, .int .u16 0, .int .u16 0] 50 _ _ _ Try.results46 (by rfl) Bv Try.underlying50 rfl (by kernel_rfl)
  · rfl
  · exact ⟨rfl, gv⟩
set_option maxRecDepth 100000 in
set_option maxHeartbeats 4000000 in
theorem rPacket_most (l : List Int) (i most : Int) (w : World) (hl : Byt l) (hb : l.length ≤ 4611686018427387904) (hi : 0 ≤ i ∧ i ≤ 1000) (hmo : -9223372036854775808 ≤ most ∧ most ≤ 9223372036854775807) (h0 : badR l = 0) (h1 : most < l.length) :
    Calls Try.prog 46 #[.int .i64 i, SV l, .int .i64 most] w fun e w' => e = .returned (.agg #[.int .u64 i, .int .i64 l.length, .int .u16 0, .int .u16 0, .int .u16 0, .int .u16 0]) ∧ Below w.heap.size w w' := by
  have ks := sv_size
  have hwi : IntKind.u64.wrap i = i := IntWalk.u64_in _ ⟨by omega, by omega⟩
  have KB := hide (show ∀ v, Calls Try.prog 28 #[SV l] v fun e w' => e = .returned (.int .i64 0) ∧ Below v.heap.size v w' from fun v => by have h := ipBad l v hl hb; rw [h0] at h; exact h)
  have d1 : decide ((l.length : Int) ≤ most) = false := decide_eq_false (by omega)
  go_enter Try.func46, Try.ntmps46
  go_wp2_with fail
  refine (KB.out _).mono ?_
  rintro e w1 ⟨rfl, hb1⟩
  have R1 : Blk w1 (w.heap.size) #[.int .u64 0, .int .i64 0, .int .u16 0, .int .u16 0, .int .u16 0, .int .u16 0] 50 := Blk.below (by (repeat' (first | (with_reducible (first | assumption | exact Blk.alloc_new _ _ _ (by first | rfl | (simp; done) | omega) | apply Blk.drewN | apply Blk.drew | apply Blk.alloc_old | apply Blk.set_same | apply Blk.set_other)) | (show (_ : Nat) ≠ _; first | omega | (simp; done) | (simp; omega)) | ((simp only [List.setIfInBounds_toArray, List.set_cons_succ, List.set_cons_zero]); (with_reducible exact rfl)) | (with_reducible exact rfl) | (show (_ : Array Value) = _; exact rfl)))) hb1 (by first | (simp; done) | omega | (simp; omega))
  have X1 : Blk w1 (w.heap.size + 1) #[.int .u64 i, .int .i64 l.length, .int .u16 0, .int .u16 0, .int .u16 0, .int .u16 0] 50 := Blk.below (by (repeat' (first | (with_reducible (first | assumption | exact Blk.alloc_new _ _ _ (by first | rfl | (simp; done) | omega) | apply Blk.drewN | apply Blk.drew | apply Blk.alloc_old | apply Blk.set_same | apply Blk.set_other)) | (show (_ : Nat) ≠ _; first | omega | (simp; done) | (simp; omega)) | ((simp only [List.setIfInBounds_toArray, List.set_cons_succ, List.set_cons_zero]); (with_reducible exact rfl)) | (with_reducible exact rfl) | (show (_ : Array Value) = _; exact rfl)))) hb1 (by first | (simp; done) | omega | (simp; omega))
  have g1 : Below w.heap.size w w1 := by refine Below.trans ?_ (hb1.mono ?_) <;> (repeat' (first | (with_reducible (first | exact Below.refl _ _ | assumption | refine below_drewN ?_ _ | refine Below.drew ?_ | refine Below.alloc ?_ ?_ _ | refine Below.setCell ?_ ?_ _)) | go_size))
  have hz1 := hb1.size
  (try simp at hz1)
  clear hb1
  have cR := R1.cell
  have fR := R1.frozen
  have zR := R1.size
  have cX := X1.cell
  have fX := X1.frozen
  have zX := X1.size
  go_wp2
  refine bp_forget (fun v => Below w.heap.size w v ∧ Blk v (w.heap.size) #[.int .u64 i, .int .i64 l.length, .int .u16 0, .int .u16 0, .int .u16 0, .int .u16 0] 50) ⟨by (repeat' (first | (with_reducible (first | exact Below.refl _ _ | assumption | refine below_drewN ?_ _ | refine Below.drew ?_ | refine Below.alloc ?_ ?_ _ | refine Below.setCell ?_ ?_ _)) | go_size)), by (repeat' (first | (with_reducible (first | assumption | exact Blk.alloc_new _ _ _ (by first | rfl | (simp; done) | omega) | apply Blk.drewN | apply Blk.drew | apply Blk.alloc_old | apply Blk.set_same | apply Blk.set_other)) | (show (_ : Nat) ≠ _; first | omega | (simp; done) | (simp; omega)) | ((simp only [List.setIfInBounds_toArray, List.set_cons_succ, List.set_cons_zero]); (with_reducible exact rfl)) | (with_reducible exact rfl) | (show (_ : Array Value) = _; exact rfl)))⟩ ?_
  rintro v ⟨gv, Bv⟩
  refine bodyPost_ret (v := .agg #[.int .u64 i, .int .i64 l.length, .int .u16 0, .int .u16 0, .int .u16 0, .int .u16 0]) ?_ ?_ ?_
  · exact results_blk (w.heap.size) #[.int .u64 i, .int .i64 l.length, .int .u16 0, .int .u16 0, .int .u16 0, .int .u16 0] 50 _ _ _ Try.results46 (by rfl) Bv Try.underlying50 rfl (by kernel_rfl)
  · rfl
  · exact ⟨rfl, gv⟩
set_option maxRecDepth 100000 in
set_option maxHeartbeats 4000000 in
theorem rPacket_long (l : List Int) (i most : Int) (w : World) (hl : Byt l) (hb : l.length ≤ 4611686018427387904) (hi : 0 ≤ i ∧ i ≤ 1000) (hmo : -9223372036854775808 ≤ most ∧ most ≤ 9223372036854775807) (h0 : badR l = 0) (h1 : (l.length : Int) ≤ most) (h2 : 16384 < l.length) :
    Calls Try.prog 46 #[.int .i64 i, SV l, .int .i64 most] w fun e w' => e = .returned (.agg #[.int .u64 i, .int .i64 l.length, .int .u16 0, .int .u16 0, .int .u16 0, .int .u16 0]) ∧ Below w.heap.size w w' := by
  have ks := sv_size
  have hwi : IntKind.u64.wrap i = i := IntWalk.u64_in _ ⟨by omega, by omega⟩
  have KB := hide (show ∀ v, Calls Try.prog 28 #[SV l] v fun e w' => e = .returned (.int .i64 0) ∧ Below v.heap.size v w' from fun v => by have h := ipBad l v hl hb; rw [h0] at h; exact h)
  have d1 : decide ((l.length : Int) ≤ most) = true := decide_eq_true (by omega); have d2 : decide ((l.length : Int) ≤ 16384) = false := decide_eq_false (by omega); have d2n : decide (l.length ≤ 16384) = false := decide_eq_false (by omega)
  go_enter Try.func46, Try.ntmps46
  go_wp2_with fail
  refine (KB.out _).mono ?_
  rintro e w1 ⟨rfl, hb1⟩
  have R1 : Blk w1 (w.heap.size) #[.int .u64 0, .int .i64 0, .int .u16 0, .int .u16 0, .int .u16 0, .int .u16 0] 50 := Blk.below (by (repeat' (first | (with_reducible (first | assumption | exact Blk.alloc_new _ _ _ (by first | rfl | (simp; done) | omega) | apply Blk.drewN | apply Blk.drew | apply Blk.alloc_old | apply Blk.set_same | apply Blk.set_other)) | (show (_ : Nat) ≠ _; first | omega | (simp; done) | (simp; omega)) | ((simp only [List.setIfInBounds_toArray, List.set_cons_succ, List.set_cons_zero]); (with_reducible exact rfl)) | (with_reducible exact rfl) | (show (_ : Array Value) = _; exact rfl)))) hb1 (by first | (simp; done) | omega | (simp; omega))
  have X1 : Blk w1 (w.heap.size + 1) #[.int .u64 i, .int .i64 l.length, .int .u16 0, .int .u16 0, .int .u16 0, .int .u16 0] 50 := Blk.below (by (repeat' (first | (with_reducible (first | assumption | exact Blk.alloc_new _ _ _ (by first | rfl | (simp; done) | omega) | apply Blk.drewN | apply Blk.drew | apply Blk.alloc_old | apply Blk.set_same | apply Blk.set_other)) | (show (_ : Nat) ≠ _; first | omega | (simp; done) | (simp; omega)) | ((simp only [List.setIfInBounds_toArray, List.set_cons_succ, List.set_cons_zero]); (with_reducible exact rfl)) | (with_reducible exact rfl) | (show (_ : Array Value) = _; exact rfl)))) hb1 (by first | (simp; done) | omega | (simp; omega))
  have g1 : Below w.heap.size w w1 := by refine Below.trans ?_ (hb1.mono ?_) <;> (repeat' (first | (with_reducible (first | exact Below.refl _ _ | assumption | refine below_drewN ?_ _ | refine Below.drew ?_ | refine Below.alloc ?_ ?_ _ | refine Below.setCell ?_ ?_ _)) | go_size))
  have hz1 := hb1.size
  (try simp at hz1)
  clear hb1
  have cR := R1.cell
  have fR := R1.frozen
  have zR := R1.size
  have cX := X1.cell
  have fX := X1.frozen
  have zX := X1.size
  go_wp2
  refine bp_forget (fun v => Below w.heap.size w v ∧ Blk v (w.heap.size) #[.int .u64 i, .int .i64 l.length, .int .u16 0, .int .u16 0, .int .u16 0, .int .u16 0] 50) ⟨by (repeat' (first | (with_reducible (first | exact Below.refl _ _ | assumption | refine below_drewN ?_ _ | refine Below.drew ?_ | refine Below.alloc ?_ ?_ _ | refine Below.setCell ?_ ?_ _)) | go_size)), by (repeat' (first | (with_reducible (first | assumption | exact Blk.alloc_new _ _ _ (by first | rfl | (simp; done) | omega) | apply Blk.drewN | apply Blk.drew | apply Blk.alloc_old | apply Blk.set_same | apply Blk.set_other)) | (show (_ : Nat) ≠ _; first | omega | (simp; done) | (simp; omega)) | ((simp only [List.setIfInBounds_toArray, List.set_cons_succ, List.set_cons_zero]); (with_reducible exact rfl)) | (with_reducible exact rfl) | (show (_ : Array Value) = _; exact rfl)))⟩ ?_
  rintro v ⟨gv, Bv⟩
  refine bodyPost_ret (v := .agg #[.int .u64 i, .int .i64 l.length, .int .u16 0, .int .u16 0, .int .u16 0, .int .u16 0]) ?_ ?_ ?_
  · exact results_blk (w.heap.size) #[.int .u64 i, .int .i64 l.length, .int .u16 0, .int .u16 0, .int .u16 0, .int .u16 0] 50 _ _ _ Try.results46 (by rfl) Bv Try.underlying50 rfl (by kernel_rfl)
  · rfl
  · exact ⟨rfl, gv⟩
set_option maxRecDepth 100000 in
set_option maxHeartbeats 8000000 in
theorem rPacket_ok (l : List Int) (i most : Int) (w : World) (hl : Byt l) (hb : l.length ≤ 4611686018427387904) (hi : 0 ≤ i ∧ i ≤ 1000) (hmo : -9223372036854775808 ≤ most ∧ most ≤ 9223372036854775807) (K : K4) (h0 : badR l = 0) (h1 : (l.length : Int) ≤ most) (h2 : l.length ≤ 16384)
    (KK : Hid (∀ v, Calls Try.prog 30 #[SV l] v fun e w' => e = .returned (kv K) ∧ Below v.heap.size v w')) :
    Calls Try.prog 46 #[.int .i64 i, SV l, .int .i64 most] w fun e w' => e = .returned (.agg #[.int .u64 i, .int .i64 l.length, .int .u16 K.a, .int .u16 K.b, .int .u16 K.c, .int .u16 K.d]) ∧ Below w.heap.size w w' := by
  have ks := sv_size
  have hwi : IntKind.u64.wrap i = i := IntWalk.u64_in _ ⟨by omega, by omega⟩
  have KB := hide (show ∀ v, Calls Try.prog 28 #[SV l] v fun e w' => e = .returned (.int .i64 0) ∧ Below v.heap.size v w' from fun v => by have h := ipBad l v hl hb; rw [h0] at h; exact h)
  have d1 : decide ((l.length : Int) ≤ most) = true := decide_eq_true (by omega)
  have d2 : decide ((l.length : Int) ≤ 16384) = true := decide_eq_true (by omega)
  have d2n : decide (l.length ≤ 16384) = true := decide_eq_true (by omega)
  go_enter Try.func46, Try.ntmps46
  go_wp2_with fail
  refine (KB.out _).mono ?_
  rintro e w1 ⟨rfl, hb1⟩
  have R1 : Blk w1 (w.heap.size) #[.int .u64 0, .int .i64 0, .int .u16 0, .int .u16 0, .int .u16 0, .int .u16 0] 50 := Blk.below (by (repeat' (first | (with_reducible (first | assumption | exact Blk.alloc_new _ _ _ (by first | rfl | (simp; done) | omega) | apply Blk.drewN | apply Blk.drew | apply Blk.alloc_old | apply Blk.set_same | apply Blk.set_other)) | (show (_ : Nat) ≠ _; first | omega | (simp; done) | (simp; omega)) | ((simp only [List.setIfInBounds_toArray, List.set_cons_succ, List.set_cons_zero]); (with_reducible exact rfl)) | (with_reducible exact rfl) | (show (_ : Array Value) = _; exact rfl)))) hb1 (by first | (simp; done) | omega | (simp; omega))
  have X1 : Blk w1 (w.heap.size + 1) #[.int .u64 i, .int .i64 l.length, .int .u16 0, .int .u16 0, .int .u16 0, .int .u16 0] 50 := Blk.below (by (repeat' (first | (with_reducible (first | assumption | exact Blk.alloc_new _ _ _ (by first | rfl | (simp; done) | omega) | apply Blk.drewN | apply Blk.drew | apply Blk.alloc_old | apply Blk.set_same | apply Blk.set_other)) | (show (_ : Nat) ≠ _; first | omega | (simp; done) | (simp; omega)) | ((simp only [List.setIfInBounds_toArray, List.set_cons_succ, List.set_cons_zero]); (with_reducible exact rfl)) | (with_reducible exact rfl) | (show (_ : Array Value) = _; exact rfl)))) hb1 (by first | (simp; done) | omega | (simp; omega))
  have g1 : Below w.heap.size w w1 := by refine Below.trans ?_ (hb1.mono ?_) <;> (repeat' (first | (with_reducible (first | exact Below.refl _ _ | assumption | refine below_drewN ?_ _ | refine Below.drew ?_ | refine Below.alloc ?_ ?_ _ | refine Below.setCell ?_ ?_ _)) | go_size))
  have hz1 := hb1.size
  (try simp at hz1)
  clear hb1
  have cR := R1.cell
  have fR := R1.frozen
  have zR := R1.size
  have cX := X1.cell
  have fX := X1.frozen
  have zX := X1.size
  go_upto_region 3 with (fail)
  refine wp_forget (fun v => Below w.heap.size w v ∧ Blk v (w.heap.size) #[.int .u64 0, .int .i64 0, .int .u16 0, .int .u16 0, .int .u16 0, .int .u16 0] 50 ∧ Blk v (w.heap.size + 1) #[.int .u64 i, .int .i64 l.length, .int .u16 0, .int .u16 0, .int .u16 0, .int .u16 0] 50) ⟨by (repeat' (first | (with_reducible (first | exact Below.refl _ _ | assumption | refine below_drewN ?_ _ | refine Below.drew ?_ | refine Below.alloc ?_ ?_ _ | refine Below.setCell ?_ ?_ _)) | go_size)), by (repeat' (first | (with_reducible (first | assumption | exact Blk.alloc_new _ _ _ (by first | rfl | (simp; done) | omega) | apply Blk.drewN | apply Blk.drew | apply Blk.alloc_old | apply Blk.set_same | apply Blk.set_other)) | (show (_ : Nat) ≠ _; first | omega | (simp; done) | (simp; omega)) | ((simp only [List.setIfInBounds_toArray, List.set_cons_succ, List.set_cons_zero]); (with_reducible exact rfl)) | (with_reducible exact rfl) | (show (_ : Array Value) = _; exact rfl))), by (repeat' (first | (with_reducible (first | assumption | exact Blk.alloc_new _ _ _ (by first | rfl | (simp; done) | omega) | apply Blk.drewN | apply Blk.drew | apply Blk.alloc_old | apply Blk.set_same | apply Blk.set_other)) | (show (_ : Nat) ≠ _; first | omega | (simp; done) | (simp; omega)) | ((simp only [List.setIfInBounds_toArray, List.set_cons_succ, List.set_cons_zero]); (with_reducible exact rfl)) | (with_reducible exact rfl) | (show (_ : Array Value) = _; exact rfl)))⟩ ?_
  rintro w2 ⟨g2, R2, X2⟩
  have hz2 := g2.size
  replace cR := R2.cell
  replace fR := R2.frozen
  replace zR := R2.size
  replace cX := X2.cell
  replace fX := X2.frozen
  replace zX := X2.size
  refine wp_region_guarS (w.heap.size) (w.heap.size + 1) [(w.heap.size + 1, #[.int .u64 i, .int .i64 l.length, .int .u16 0, .int .u16 0, .int .u16 0, .int .u16 0], 50)] [(w.heap.size, #[.int .u64 i, .int .i64 l.length, .int .u16 K.a, .int .u16 K.b, .int .u16 K.c, .int .u16 K.d], 50)] [] [] [.val (.pointer (some ⟨w.heap.size + 1, 0, none⟩)), .val (.int .u64 i), .val (.pointer (some ⟨w.heap.size + 1, 1, none⟩)), .val (.int .i64 l.length), .val (SV l), .val (.agg #[.int .u16 K.a, .int .u16 K.b, .int .u16 K.c, .int .u16 K.d]), .val (.agg #[.int .u64 i, .int .i64 l.length, .int .u16 K.a, .int .u16 K.b, .int .u16 K.c, .int .u16 K.d]), .full (0)] (by kernel_rfl) (by kernel_rfl) (by omega) (by omega) (by intro f m; simp only [List.mem_cons, List.not_mem_nil, or_false, List.append_nil, List.nil_append, List.cons_append] at m; rcases m with rfl <;> ((show Blk _ _ _ _) <;> (repeat' (first | (with_reducible (first | assumption | exact Blk.alloc_new _ _ _ (by first | rfl | (simp; done) | omega) | apply Blk.drewN | apply Blk.drew | apply Blk.alloc_old | apply Blk.set_same | apply Blk.set_other)) | (show (_ : Nat) ≠ _; first | omega | (simp; done) | (simp; omega)) | ((simp only [List.setIfInBounds_toArray, List.set_cons_succ, List.set_cons_zero]); (with_reducible exact rfl)) | (with_reducible exact rfl) | (show (_ : Array Value) = _; exact rfl))))) (by intro f m; simp only [List.mem_cons, List.not_mem_nil, or_false, List.append_nil, List.nil_append, List.cons_append] at m; rcases m with rfl <;> (first | (exact ⟨#[.int .u64 0, .int .i64 0, .int .u16 0, .int .u16 0, .int .u16 0, .int .u16 0], rfl, by (repeat' (first | (with_reducible (first | assumption | exact Blk.alloc_new _ _ _ (by first | rfl | (simp; done) | omega) | apply Blk.drewN | apply Blk.drew | apply Blk.alloc_old | apply Blk.set_same | apply Blk.set_other)) | (show (_ : Nat) ≠ _; first | omega | (simp; done) | (simp; omega)) | ((simp only [List.setIfInBounds_toArray, List.set_cons_succ, List.set_cons_zero]); (with_reducible exact rfl)) | (with_reducible exact rfl) | (show (_ : Array Value) = _; exact rfl)))⟩))) ?_ ?_
  · refine ⟨?_, ?_, ?_, ?_, ?_, ?_, ?_, ?_, trivial⟩
    · intro a v c
      have e7 : a.eval (.tmp 7) = .pointer (some ⟨w.heap.size + 1, 0, none⟩) := (c.off 7 (by kernel_rfl)).trans rfl
      have f7 := (eval_opt a 7).trans e7
      exact gvalS (.pointer (some ⟨w.heap.size + 1, 0, none⟩)) (by simp only [execOp, f7, e7]; go_simp) rfl
    · intro a v c
      have e27 : a.eval (.tmp 27) = .pointer (some ⟨w.heap.size + 1, 0, none⟩) := c.dep 0 _ (by kernel_rfl) rfl
      have f27 := (eval_opt a 27).trans e27
      have kA : Blk v (w.heap.size + 1) #[.int .u64 i, .int .i64 l.length, .int .u16 0, .int .u16 0, .int .u16 0, .int .u16 0] 50 := c.fact (w.heap.size + 1, #[.int .u64 i, .int .i64 l.length, .int .u16 0, .int .u16 0, .int .u16 0, .int .u16 0], 50) (by simp); have cA := kA.cell; have zA := kA.size
      exact gvalS (.int .u64 i) (by simp only [execOp, f27, e27]; go_simp) rfl
    · intro a v c
      have e7 : a.eval (.tmp 7) = .pointer (some ⟨w.heap.size + 1, 0, none⟩) := (c.off 7 (by kernel_rfl)).trans rfl
      have f7 := (eval_opt a 7).trans e7
      exact gvalS (.pointer (some ⟨w.heap.size + 1, 1, none⟩)) (by simp only [execOp, f7, e7]; go_simp) rfl
    · intro a v c
      have e29 : a.eval (.tmp 29) = .pointer (some ⟨w.heap.size + 1, 1, none⟩) := c.dep 2 _ (by kernel_rfl) rfl
      have f29 := (eval_opt a 29).trans e29
      have kA : Blk v (w.heap.size + 1) #[.int .u64 i, .int .i64 l.length, .int .u16 0, .int .u16 0, .int .u16 0, .int .u16 0] 50 := c.fact (w.heap.size + 1, #[.int .u64 i, .int .i64 l.length, .int .u16 0, .int .u16 0, .int .u16 0, .int .u16 0], 50) (by simp); have cA := kA.cell; have zA := kA.size
      exact gvalS (.int .i64 l.length) (by simp only [execOp, f29, e29]; go_simp) rfl
    · intro a v c
      have e1 : a.eval (.tmp 1) = SV l := (c.off 1 (by kernel_rfl)).trans rfl
      have f1 := (eval_opt a 1).trans e1
      exact gvalS (SV l) (by simp only [execOp, f1, e1]; go_simp) rfl
    · intro a v c
      have e31 : a.eval (.tmp 31) = SV l := c.dep 4 _ (by kernel_rfl) rfl
      have f31 := (eval_opt a 31).trans e31
      exact gcallS (.agg #[.int .u16 K.a, .int .u16 K.b, .int .u16 K.c, .int .u16 K.d]) 30 #[SV l] c.low (by simp only [execOp, f31, e31]; go_simp) (KK.out _) (fun _ => rfl)
    · intro a v c
      have e28 : a.eval (.tmp 28) = .int .u64 i := c.dep 1 _ (by kernel_rfl) rfl
      have e30 : a.eval (.tmp 30) = .int .i64 l.length := c.dep 3 _ (by kernel_rfl) rfl
      have e32 : a.eval (.tmp 32) = .agg #[.int .u16 K.a, .int .u16 K.b, .int .u16 K.c, .int .u16 K.d] := c.dep 5 _ (by kernel_rfl) rfl
      have f28 := (eval_opt a 28).trans e28
      have f30 := (eval_opt a 30).trans e30
      have f32 := (eval_opt a 32).trans e32
      exact gvalS (.agg #[.int .u64 i, .int .i64 l.length, .int .u16 K.a, .int .u16 K.b, .int .u16 K.c, .int .u16 K.d]) (by simp only [execOp, f28, f30, f32, e28, e30, e32]; go_simp) rfl
    · intro a v c
      have e6 : a.eval (.tmp 6) = .pointer (some ⟨w.heap.size, 0, none⟩) := (c.off 6 (by kernel_rfl)).trans rfl
      have e33 : a.eval (.tmp 33) = .agg #[.int .u64 i, .int .i64 l.length, .int .u16 K.a, .int .u16 K.b, .int .u16 K.c, .int .u16 K.d] := c.dep 6 _ (by kernel_rfl) rfl
      exact gstoreS 0 (w.heap.size, #[.int .u64 i, .int .i64 l.length, .int .u16 K.a, .int .u16 K.b, .int .u16 K.c, .int .u16 K.d], 50) 50 (.tmp 6) (.tmp 33) rfl e6 e33 (c.room _ (by simp)) (by kernel_rfl) (by simp [Value.oneCell']) rfl rfl (by omega) (by omega) (by intro f m; simp only [List.mem_cons, List.not_mem_nil, or_false] at m; rcases m with rfl <;> ((show _ ≠ _) <;> (first | omega | (simp; omega)))) (by intro f m e; simp only [List.mem_cons, List.not_mem_nil, or_false] at m; rcases m with rfl <;> (first | rfl | (exfalso; simp at e; omega))) (fun _ h => absurd h (by simp))
  intro a v hb hF hRm hCl hd ho hs hf
  have e27 : a.eval (.tmp 27) = .pointer (some ⟨w.heap.size + 1, 0, none⟩) := hd 0 _ rfl
  have e28 : a.eval (.tmp 28) = .int .u64 i := hd 1 _ rfl
  have e29 : a.eval (.tmp 29) = .pointer (some ⟨w.heap.size + 1, 1, none⟩) := hd 2 _ rfl
  have e30 : a.eval (.tmp 30) = .int .i64 l.length := hd 3 _ rfl
  have e31 : a.eval (.tmp 31) = SV l := hd 4 _ rfl
  have e32 : a.eval (.tmp 32) = .agg #[.int .u16 K.a, .int .u16 K.b, .int .u16 K.c, .int .u16 K.d] := hd 5 _ rfl
  have e33 : a.eval (.tmp 33) = .agg #[.int .u64 i, .int .i64 l.length, .int .u16 K.a, .int .u16 K.b, .int .u16 K.c, .int .u16 K.d] := hd 6 _ rfl
  have XG : Blk v (w.heap.size + 1) #[.int .u64 i, .int .i64 l.length, .int .u16 0, .int .u16 0, .int .u16 0, .int .u16 0] 50 := hF (w.heap.size + 1, #[.int .u64 i, .int .i64 l.length, .int .u16 0, .int .u16 0, .int .u16 0, .int .u16 0], 50) (by simp)
  have RG : Blk v (w.heap.size) #[.int .u64 i, .int .i64 l.length, .int .u16 K.a, .int .u16 K.b, .int .u16 K.c, .int .u16 K.d] 50 := hd 7 _ rfl _ rfl
  have gG := g2.trans hb
  rw [frame_eta a 35 hs, hf]
  simp only [List.range, List.range.loop, List.map_cons, List.map_nil, e27, e28, e29, e30, e31, e32, e33, ho 0 (by kernel_rfl), ho 1 (by kernel_rfl), ho 2 (by kernel_rfl), ho 3 (by kernel_rfl), ho 4 (by kernel_rfl), ho 5 (by kernel_rfl), ho 6 (by kernel_rfl), ho 7 (by kernel_rfl), ho 8 (by kernel_rfl), ho 9 (by kernel_rfl), ho 10 (by kernel_rfl), ho 11 (by kernel_rfl), ho 12 (by kernel_rfl), ho 13 (by kernel_rfl), ho 14 (by kernel_rfl), ho 15 (by kernel_rfl), ho 16 (by kernel_rfl), ho 17 (by kernel_rfl), ho 18 (by kernel_rfl), ho 19 (by kernel_rfl), ho 20 (by kernel_rfl), ho 21 (by kernel_rfl), ho 22 (by kernel_rfl), ho 23 (by kernel_rfl), ho 24 (by kernel_rfl), ho 25 (by kernel_rfl), ho 26 (by kernel_rfl), ho 34 (by kernel_rfl)]
  clear hd hF hRm hCl ho hf hs hb e27 e28 e29 e30 e31 e32 e33
  clear a
  replace cX := XG.cell; replace fX := XG.frozen; replace zX := XG.size
  replace cR := RG.cell; replace fR := RG.frozen; replace zR := RG.size
  go_simp
  go_wp2
  refine bp_forget (fun v => Below w.heap.size w v ∧ Blk v (w.heap.size) #[.int .u64 i, .int .i64 l.length, .int .u16 K.a, .int .u16 K.b, .int .u16 K.c, .int .u16 K.d] 50) ⟨by (repeat' (first | (with_reducible (first | exact Below.refl _ _ | assumption | refine below_drewN ?_ _ | refine Below.drew ?_ | refine Below.alloc ?_ ?_ _ | refine Below.setCell ?_ ?_ _)) | go_size)), by (repeat' (first | (with_reducible (first | assumption | exact Blk.alloc_new _ _ _ (by first | rfl | (simp; done) | omega) | apply Blk.drewN | apply Blk.drew | apply Blk.alloc_old | apply Blk.set_same | apply Blk.set_other)) | (show (_ : Nat) ≠ _; first | omega | (simp; done) | (simp; omega)) | ((simp only [List.setIfInBounds_toArray, List.set_cons_succ, List.set_cons_zero]); (with_reducible exact rfl)) | (with_reducible exact rfl) | (show (_ : Array Value) = _; exact rfl)))⟩ ?_
  rintro v ⟨gv, Bv⟩
  refine bodyPost_ret (v := .agg #[.int .u64 i, .int .i64 l.length, .int .u16 K.a, .int .u16 K.b, .int .u16 K.c, .int .u16 K.d]) ?_ ?_ ?_
  · exact results_blk (w.heap.size) #[.int .u64 i, .int .i64 l.length, .int .u16 K.a, .int .u16 K.b, .int .u16 K.c, .int .u16 K.d] 50 _ _ _ Try.results46 (by rfl) Bv Try.underlying50 rfl (by kernel_rfl)
  · rfl
  · exact ⟨rfl, gv⟩
theorem rPacket46 (l : List Int) (i most : Int) (w : World) (hl : Byt l) (hb : l.length ≤ 4611686018427387904) (hi : 0 ≤ i ∧ i ≤ 1000) (hmo : -9223372036854775808 ≤ most ∧ most ≤ 9223372036854775807) (K : K4) (hK : pktK l most = K) :
    Calls Try.prog 46 #[.int .i64 i, SV l, .int .i64 most] w fun e w' => e = .returned (.agg #[.int .u64 i, .int .i64 l.length, .int .u16 K.a, .int .u16 K.b, .int .u16 K.c, .int .u16 K.d]) ∧ Below w.heap.size w w' := by
  subst hK
  by_cases h0 : badR l = 0
  · by_cases h1 : most < l.length
    · have e : pktK l most = ⟨0, 0, 0, 0⟩ := by have he : fpE l most = 26 := (by unfold fpE; rw [if_pos h0, if_pos (.inl h1)]); unfold pktK; rw [he]; rfl
      rw [e]; exact rPacket_most l i most w hl hb hi hmo h0 h1
    by_cases h2 : 16384 < l.length
    · have e : pktK l most = ⟨0, 0, 0, 0⟩ := by have he : fpE l most = 26 := (by unfold fpE; rw [if_pos h0, if_pos (.inr h2)]); unfold pktK; rw [he]; rfl
      rw [e]; exact rPacket_long l i most w hl hb hi hmo h0 (by omega) h2
    have e : pktK l most = fkV l := by have he : fpE l most = 0 := (by unfold fpE; rw [if_pos h0, if_neg (by omega)]); unfold pktK; rw [he]; rfl
    rw [e]
    refine rPacket_ok l i most w hl hb hi hmo (fkV l) h0 (by omega) (by omega) (hide fun v => ?_)
    obtain ⟨k0, k1, k2, k3, k4, k5⟩ := bad_zero h0
    have hsz := szR_eq hl
    have q2 := hl.get 2; have q3 := hl.get 3
    have hal : alR l = l.getD 2 0 * 256 + l.getD 3 0 := rfl
    have hk : fkV l = keyL (hdL l) (bdL l) := by unfold fkV; rw [if_pos h0]
    rw [hk]
    exact rkey l (bdL l) (hdL l) v (hdL_ok' hl) (bd_byt hl) (by unfold bdL; rw [List.length_drop]; omega) (hide fun v => ipHead l _ (szR l) _ _ _ _ _ _ _ _ _ v hl (by omega) k0 ⟨k1, k2⟩ hsz (by omega) rfl rfl rfl rfl rfl rfl rfl rfl rfl rfl) (hide fun v => ipBody l _ (szR l) v hl (by omega) k0 ⟨k1, k2⟩ hsz (by omega) rfl)
  · have e : pktK l most = ⟨0, 0, 0, 0⟩ := by have he : fpE l most = badR l := (by unfold fpE; rw [if_neg h0]); unfold pktK; rw [he, if_neg h0]
    rw [e]; exact rPacket_bad l i most w hl hb hi hmo h0
set_option maxRecDepth 100000 in
set_option maxHeartbeats 8000000 in
theorem rOps46 (L : List FM) (a : Option Addr) (b off cap : Nat) (most : Int) (O : List OP) (w : World) (ha : L ≠ [] → a = some ⟨b, off, none⟩) (hb : L ≠ [] → b < w.heap.size) (hL : FmAt w b off L) (ok : ∀ f ∈ L, f.ok) (hmo : -9223372036854775808 ≤ most ∧ most ≤ 9223372036854775807) (hn : L.length ≤ 1000) (hcap : L.length ≤ cap) (he : capE L 0 = 0) (hO : opsG most L 0 0 [] = O) :
    Calls Try.prog 22 #[.slice a L.length cap, .int .i64 most] w fun x w' => ∃ v, x = .returned v ∧ HoldO w' w.heap.size v O ∧ Below w.heap.size w w' := by
  have ks := sv_size
  have HE := hide he; have HO := hide hO; clear he hO
  go_enter Try.func22, Try.ntmps22
  go_wp2
  go_loopw [5, 11] (fun o i wr => ∃ (k : Nat) (last : Int) (out : List OP), k ≤ L.length ∧ i = .int .i64 k ∧ (0 ≤ last ∧ last ≤ 4611686018427387904) ∧ (k = 0 → last = 0) ∧ (∀ m f, k = m + 1 → L[m]? = some f → f.t = last) ∧ HoldO wr w.heap.size o out ∧ out.length ≤ 2 * k ∧ Below w.heap.size w wr ∧ Hid (capE (L.drop k) last = 0) ∧ Hid (opsG most (L.drop k) k last out = O)) (fun _ i _ => L.length - (intOf i).toNat)
  case atStart => exact ⟨0, 0, [], Nat.zero_le _, rfl, by omega, fun _ => rfl, fun m f h => by omega, HoldG.nil _ _, by simp, by (repeat' (first | (with_reducible (first | exact Below.refl _ _ | assumption | refine below_drewN ?_ _ | refine Below.drew ?_ | refine Below.alloc ?_ ?_ _ | refine Below.setCell ?_ ?_ _)) | go_size)), HE, HO⟩
  case round =>
    obtain ⟨k, last, out, hk, rfl, hla, hk0, hlast, H0, hol, g0, hcc, hss⟩ := hrel
    have hl0 := g0.size
    by_cases hlt : k < L.length
    · obtain ⟨f, hf⟩ : ∃ f, L[k]? = some f := ⟨_, List.getElem?_eq_getElem hlt⟩
      have hne : L ≠ [] := by intro e; rw [e] at hlt; simp at hlt
      have hbw := hb hne
      obtain rfl := ha hne
      obtain ⟨q0, q1⟩ := (hL.below g0 hbw) k f hf
      obtain ⟨o1, o2, o3⟩ := ok f (List.mem_of_getElem? hf)
      have hst := hcc.out
      have hsb := hss.out
      rw [drop_next hf] at hst hsb
      have hki : (k : Int) < (L.length : Int) := by omega
      have hlb : (k : Int) ≤ 1000 := by omega
      obtain ⟨z1, z2, z3, z4, z5⟩ := capE_zero hst
      have hwt : IntKind.u64.wrap (f.t - last) = f.t - last := IntWalk.u64_in _ ⟨by omega, by omega⟩
      obtain ⟨A, hA⟩ : ∃ A, out ++ advs last f.t = A := ⟨_, rfl⟩
      have hAl : A.length ≤ out.length + 1 := by
        rw [← hA, List.length_append]; unfold advs; split <;> simp
      obtain ⟨K, hK⟩ : ∃ K, pktK f.d most = K := ⟨_, rfl⟩
      have hpk : pktO k f.d most = ⟨3, k, f.d.length, K, 0⟩ := by unfold pktO; rw [hK]
      have hN1 : Hid (capE (L.drop (k + 1)) f.t = 0) := z5
      have hN2 : Hid (opsG most (L.drop (k + 1)) ((k + 1 : Nat) : Int) f.t (A ++ [⟨3, k, f.d.length, K, 0⟩]) = O) := by rw [← hA, ← hpk]; exact hsb
      have KP := hide (fun v => rPacket46 f.d k most v o2 (by omega) (by omega) hmo K hK)
      have z0 : b < wr.heap.size := by omega
      have hgk : ∀ m f0, k = m + 1 → L[m]? = some f0 → wr.cell? ⟨b, off + m * 2, none⟩ = some (.int .u64 last) := fun m f0 h1 h2 => by
        have := ((hL.below g0 hbw) m f0 h2).1; rw [hlast m f0 h1 h2] at this; exact this
      clear hcc hss hst hsb z5 hpk hK
      go_upto_if 17 with (fail)
      go_cut [8] (fun la wx => la = .int .u64 last ∧ HoldO wx w.heap.size u5 out ∧ Below w.heap.size w wx ∧ Blk wx (wr.heap.size) #[.int .u64 f.t, SV f.d] 100)
      case first =>
        cases k with
        | zero =>
          obtain rfl := hk0 rfl
          go_wp2
          go_meet
          exact ⟨rfl, H0.below (by (repeat' (first | (with_reducible (first | exact Below.refl _ _ | assumption | refine below_drewN ?_ _ | refine Below.drew ?_ | refine Below.alloc ?_ ?_ _ | refine Below.setCell ?_ ?_ _)) | go_size))), by (repeat' (first | (with_reducible (first | exact Below.refl _ _ | assumption | refine below_drewN ?_ _ | refine Below.drew ?_ | refine Below.alloc ?_ ?_ _ | refine Below.setCell ?_ ?_ _)) | go_size)), by (repeat' (first | (with_reducible (first | assumption | exact Blk.alloc_new _ _ _ (by first | rfl | (simp; done) | omega) | apply Blk.drewN | apply Blk.drew | apply Blk.alloc_old | apply Blk.set_same | apply Blk.set_other)) | (show (_ : Nat) ≠ _; first | omega | (simp; done) | (simp; omega)) | ((simp only [List.setIfInBounds_toArray, List.set_cons_succ, List.set_cons_zero]); (with_reducible exact rfl)) | (with_reducible exact rfl) | (show (_ : Array Value) = _; exact rfl)))⟩
        | succ m =>
          obtain ⟨f0, hf0⟩ : ∃ f0, L[m]? = some f0 := ⟨_, List.getElem?_eq_getElem (by omega)⟩
          have r0 := hgk m f0 rfl hf0
          have y0 : ∀ o : Obj, (wr.alloc o).cell? ⟨b, off + m * 2, none⟩ = some (.int .u64 last) := fun o => ((Below.alloc (Below.refl _ _) (Nat.le_refl _) o).cell (p := ⟨b, off + m * 2, none⟩) z0).trans r0
          have em : (m : Int) + 1 - 1 = (m : Int) := by omega
          have dk : decide (0 < (m : Int) + 1) = true := decide_eq_true (by omega)
          have hmi : (m : Int) < (L.length : Int) := by omega
          have hmn : m < L.length := by omega
          have htn : (m : Int).toNat = m := Int.toNat_natCast m
          go_wp2
          go_meet
          exact ⟨rfl, H0.below (by (repeat' (first | (with_reducible (first | exact Below.refl _ _ | assumption | refine below_drewN ?_ _ | refine Below.drew ?_ | refine Below.alloc ?_ ?_ _ | refine Below.setCell ?_ ?_ _)) | go_size))), by (repeat' (first | (with_reducible (first | exact Below.refl _ _ | assumption | refine below_drewN ?_ _ | refine Below.drew ?_ | refine Below.alloc ?_ ?_ _ | refine Below.setCell ?_ ?_ _)) | go_size)), by (repeat' (first | (with_reducible (first | assumption | exact Blk.alloc_new _ _ _ (by first | rfl | (simp; done) | omega) | apply Blk.drewN | apply Blk.drew | apply Blk.alloc_old | apply Blk.set_same | apply Blk.set_other)) | (show (_ : Nat) ≠ _; first | omega | (simp; done) | (simp; omega)) | ((simp only [List.setIfInBounds_toArray, List.set_cons_succ, List.set_cons_zero]); (with_reducible exact rfl)) | (with_reducible exact rfl) | (show (_ : Array Value) = _; exact rfl)))⟩
      case rest =>
        obtain ⟨rfl, H1, g1, X1⟩ := hcut
        have cX := X1.cell; have fX := X1.frozen; have zX := X1.size; have hz1 := g1.size
        clear hgk
        go_upto_if 27 with (fail)
        go_cut [5] (fun o wx => HoldO wx w.heap.size o A ∧ Below w.heap.size w wx ∧ Blk wx (wr.heap.size) #[.int .u64 f.t, SV f.d] 100)
        case first =>
          by_cases c : last < f.t
          · have d1 : (f.t != last) = true := bne_iff_ne.2 (by omega)
            have hAA : A = out ++ [advO (f.t - last)] := by rw [← hA]; unfold advs; rw [if_pos c]
            subst hAA
            clear hA
            go_wp2_with (refine wpList_append_op rfl (.tmp 28) (.tmp 34) rfl w.heap.size u5 out (advO (f.t - last)) (wc.heap.size) #[.int .i64 4, .slice none 0 0, .slice none 0 0, .int .u64 0, .int .i64 0, .int .u16 0, .int .u16 0, .int .u16 0, .int .u16 0, .int .u64 (f.t - last)] rfl (by rfl) (by rfl) (H1.below (by (repeat' (first | (with_reducible (first | exact Below.refl _ _ | assumption | refine below_drewN ?_ _ | refine Below.drew ?_ | refine Below.alloc ?_ ?_ _ | refine Below.setCell ?_ ?_ _)) | go_size)))) (by (repeat' (first | (with_reducible (first | assumption | exact Blk.alloc_new _ _ _ (by first | rfl | (simp; done) | omega) | apply Blk.drewN | apply Blk.drew | apply Blk.alloc_old | apply Blk.set_same | apply Blk.set_other)) | (show (_ : Nat) ≠ _; first | omega | (simp; done) | (simp; omega)) | ((simp only [List.setIfInBounds_toArray, List.set_cons_succ, List.set_cons_zero]); (with_reducible exact rfl)) | (with_reducible exact rfl) | (show (_ : Array Value) = _; exact rfl)))) (by omega) (by simp; omega) ?_; intro v' w2 H2 hb2 hs2 hoth; have g2 : Below w.heap.size w w2 := Below.trans (by (repeat' (first | (with_reducible (first | exact Below.refl _ _ | assumption | refine below_drewN ?_ _ | refine Below.drew ?_ | refine Below.alloc ?_ ?_ _ | refine Below.setCell ?_ ?_ _)) | go_size))) hb2; have hz2 := g2.size; have X2 : Blk w2 (wr.heap.size) #[.int .u64 f.t, SV f.d] 100 := hoth _ _ _ (H1.ne_blk X1 (by decide)) (by (repeat' (first | (with_reducible (first | assumption | exact Blk.alloc_new _ _ _ (by first | rfl | (simp; done) | omega) | apply Blk.drewN | apply Blk.drew | apply Blk.alloc_old | apply Blk.set_same | apply Blk.set_other)) | (show (_ : Nat) ≠ _; first | omega | (simp; done) | (simp; omega)) | ((simp only [List.setIfInBounds_toArray, List.set_cons_succ, List.set_cons_zero]); (with_reducible exact rfl)) | (with_reducible exact rfl) | (show (_ : Array Value) = _; exact rfl)))); have cX := X2.cell; have fX := X2.frozen; have zX := X2.size)
            go_meet
            exact ⟨by first | assumption | exact H2.below (by (repeat' (first | (with_reducible (first | exact Below.refl _ _ | assumption | refine below_drewN ?_ _ | refine Below.drew ?_ | refine Below.alloc ?_ ?_ _ | refine Below.setCell ?_ ?_ _)) | go_size))), by (repeat' (first | (with_reducible (first | exact Below.refl _ _ | assumption | refine below_drewN ?_ _ | refine Below.drew ?_ | refine Below.alloc ?_ ?_ _ | refine Below.setCell ?_ ?_ _)) | go_size)), by (repeat' (first | (with_reducible (first | assumption | exact Blk.alloc_new _ _ _ (by first | rfl | (simp; done) | omega) | apply Blk.drewN | apply Blk.drew | apply Blk.alloc_old | apply Blk.set_same | apply Blk.set_other)) | (show (_ : Nat) ≠ _; first | omega | (simp; done) | (simp; omega)) | ((simp only [List.setIfInBounds_toArray, List.set_cons_succ, List.set_cons_zero]); (with_reducible exact rfl)) | (with_reducible exact rfl) | (show (_ : Array Value) = _; exact rfl)))⟩
          · have d1 : (f.t != last) = false := by rw [bne_eq_false_iff_eq]; omega
            have hAA : A = out := by rw [← hA]; unfold advs; rw [if_neg c]; simp
            subst hAA
            clear hA
            go_wp2
            go_meet
            exact ⟨H1.below (by (repeat' (first | (with_reducible (first | exact Below.refl _ _ | assumption | refine below_drewN ?_ _ | refine Below.drew ?_ | refine Below.alloc ?_ ?_ _ | refine Below.setCell ?_ ?_ _)) | go_size))), by (repeat' (first | (with_reducible (first | exact Below.refl _ _ | assumption | refine below_drewN ?_ _ | refine Below.drew ?_ | refine Below.alloc ?_ ?_ _ | refine Below.setCell ?_ ?_ _)) | go_size)), by (repeat' (first | (with_reducible (first | assumption | exact Blk.alloc_new _ _ _ (by first | rfl | (simp; done) | omega) | apply Blk.drewN | apply Blk.drew | apply Blk.alloc_old | apply Blk.set_same | apply Blk.set_other)) | (show (_ : Nat) ≠ _; first | omega | (simp; done) | (simp; omega)) | ((simp only [List.setIfInBounds_toArray, List.set_cons_succ, List.set_cons_zero]); (with_reducible exact rfl)) | (with_reducible exact rfl) | (show (_ : Array Value) = _; exact rfl)))⟩
        case rest =>
          obtain ⟨H3, g3, X3⟩ := hcut
          clear hA
          replace cX := X3.cell; replace fX := X3.frozen; replace zX := X3.size; have hz3 := g3.size
          go_wp2_with fail
          refine (KP.out _).mono ?_
          rintro e4 w4 ⟨rfl, hb4⟩
          have g4 : Below w.heap.size w w4 := Below.trans (by (repeat' (first | (with_reducible (first | exact Below.refl _ _ | assumption | refine below_drewN ?_ _ | refine Below.drew ?_ | refine Below.alloc ?_ ?_ _ | refine Below.setCell ?_ ?_ _)) | go_size))) (hb4.mono (by (try simp); omega))
          have H4 := H3.below hb4
          have X4 : Blk w4 (wr.heap.size) #[.int .u64 f.t, SV f.d] 100 := Blk.below (by (repeat' (first | (with_reducible (first | assumption | exact Blk.alloc_new _ _ _ (by first | rfl | (simp; done) | omega) | apply Blk.drewN | apply Blk.drew | apply Blk.alloc_old | apply Blk.set_same | apply Blk.set_other)) | (show (_ : Nat) ≠ _; first | omega | (simp; done) | (simp; omega)) | ((simp only [List.setIfInBounds_toArray, List.set_cons_succ, List.set_cons_zero]); (with_reducible exact rfl)) | (with_reducible exact rfl) | (show (_ : Array Value) = _; exact rfl)))) hb4 (by (try simp); omega)
          have hz4 := g4.size
          replace cX := X4.cell; replace fX := X4.frozen; replace zX := X4.size
          go_wp2_with (refine wpList_append_op rfl (.tmp 36) (.tmp 43) rfl w.heap.size _ A ⟨3, k, f.d.length, K, 0⟩ (w4.heap.size) #[.int .i64 3, .slice none 0 0, .slice none 0 0, .int .u64 k, .int .i64 f.d.length, .int .u16 K.a, .int .u16 K.b, .int .u16 K.c, .int .u16 K.d, .int .u64 0] rfl (by rfl) (by rfl) (H4.below (by (repeat' (first | (with_reducible (first | exact Below.refl _ _ | assumption | refine below_drewN ?_ _ | refine Below.drew ?_ | refine Below.alloc ?_ ?_ _ | refine Below.setCell ?_ ?_ _)) | go_size)))) (by (repeat' (first | (with_reducible (first | assumption | exact Blk.alloc_new _ _ _ (by first | rfl | (simp; done) | omega) | apply Blk.drewN | apply Blk.drew | apply Blk.alloc_old | apply Blk.set_same | apply Blk.set_other)) | (show (_ : Nat) ≠ _; first | omega | (simp; done) | (simp; omega)) | ((simp only [List.setIfInBounds_toArray, List.set_cons_succ, List.set_cons_zero]); (with_reducible exact rfl)) | (with_reducible exact rfl) | (show (_ : Array Value) = _; exact rfl)))) (by omega) (by simp; omega) ?_; intro v5 w5 H5 hb5 hs5 hoth; have g5 : Below w.heap.size w w5 := Below.trans (by (repeat' (first | (with_reducible (first | exact Below.refl _ _ | assumption | refine below_drewN ?_ _ | refine Below.drew ?_ | refine Below.alloc ?_ ?_ _ | refine Below.setCell ?_ ?_ _)) | go_size))) hb5; have hz5 := g5.size)
          go_roundw
          case rel => exact ⟨k + 1, f.t, _, by omega, by go_num, by omega, fun h => by omega, fun m g h hg => by (obtain rfl : m = k := by omega); rw [hf] at hg; cases hg; rfl, H5, by simp only [List.length_append, List.length_cons, List.length_nil]; omega, by (repeat' (first | (with_reducible (first | exact Below.refl _ _ | assumption | refine below_drewN ?_ _ | refine Below.drew ?_ | refine Below.alloc ?_ ?_ _ | refine Below.setCell ?_ ?_ _)) | go_size)), hN1, hN2⟩
          case measure => simp [intOf]; omega
    · obtain rfl : k = L.length := by omega
      have h2 := hss.out
      rw [List.drop_length] at h2
      have hsS : out = O := h2
      subst hsS
      clear hcc hss h2
      go_wp2
      go_ret
      exact ⟨_, rfl, H0, by (repeat' (first | (with_reducible (first | exact Below.refl _ _ | assumption | refine below_drewN ?_ _ | refine Below.drew ?_ | refine Below.alloc ?_ ?_ _ | refine Below.setCell ?_ ?_ _)) | go_size))⟩
set_option maxRecDepth 100000 in
set_option maxHeartbeats 4000000 in
theorem rSame29 (k id n t : Int) (K : K4) (w : World) :
    Calls Try.prog 23 #[.agg #[.int .i64 k, .slice none 0 0, .slice none 0 0, .int .u64 id, .int .i64 n, .int .u16 K.a, .int .u16 K.b, .int .u16 K.c, .int .u16 K.d, .int .u64 t], .agg #[.int .i64 k, .slice none 0 0, .slice none 0 0, .int .u64 id, .int .i64 n, .int .u16 K.a, .int .u16 K.b, .int .u16 K.c, .int .u16 K.d, .int .u64 t]] w fun x w' => x = .returned (.bool true) ∧ Below w.heap.size w w' := by
  have q0 : ∀ v, (binOp .neq 50 (.agg #[.int .u64 id, .int .i64 n, .int .u16 K.a, .int .u16 K.b, .int .u16 K.c, .int .u16 K.d]) (.agg #[.int .u64 id, .int .i64 n, .int .u16 K.a, .int .u16 K.b, .int .u16 K.c, .int .u16 K.d])).run Try.prog v = .ok (.bool false) v := fun v => by
    rw [run_neq_struct, pkeqIn 9996 id n K v]; rfl
  go_enter Try.func23, Try.ntmps23
  go_wp2
  go_loopw [49] (fun i wr => i = .int .i64 0 ∧ Below w.heap.size w wr ∧ Blk wr w.heap.size #[.int .i64 k, .slice none 0 0, .slice none 0 0, .int .u64 id, .int .i64 n, .int .u16 K.a, .int .u16 K.b, .int .u16 K.c, .int .u16 K.d, .int .u64 t] 52 ∧ Blk wr (w.heap.size + 1) #[.int .i64 k, .slice none 0 0, .slice none 0 0, .int .u64 id, .int .i64 n, .int .u16 K.a, .int .u16 K.b, .int .u16 K.c, .int .u16 K.d, .int .u64 t] 52) (fun _ _ => 0)
  case atStart => exact ⟨rfl, by (repeat' (first | (with_reducible (first | exact Below.refl _ _ | assumption | refine below_drewN ?_ _ | refine Below.drew ?_ | refine Below.alloc ?_ ?_ _ | refine Below.setCell ?_ ?_ _)) | go_size)), by (repeat' (first | (with_reducible (first | assumption | exact Blk.alloc_new _ _ _ (by first | rfl | (simp; done) | omega) | apply Blk.drewN | apply Blk.drew | apply Blk.alloc_old | apply Blk.set_same | apply Blk.set_other)) | (show (_ : Nat) ≠ _; first | omega | (simp; done) | (simp; omega)) | ((simp only [List.setIfInBounds_toArray, List.set_cons_succ, List.set_cons_zero]); (with_reducible exact rfl)) | (with_reducible exact rfl) | (show (_ : Array Value) = _; exact rfl))), by (repeat' (first | (with_reducible (first | assumption | exact Blk.alloc_new _ _ _ (by first | rfl | (simp; done) | omega) | apply Blk.drewN | apply Blk.drew | apply Blk.alloc_old | apply Blk.set_same | apply Blk.set_other)) | (show (_ : Nat) ≠ _; first | omega | (simp; done) | (simp; omega)) | ((simp only [List.setIfInBounds_toArray, List.set_cons_succ, List.set_cons_zero]); (with_reducible exact rfl)) | (with_reducible exact rfl) | (show (_ : Array Value) = _; exact rfl)))⟩
  case round =>
    obtain ⟨rfl, g0, A0, B0⟩ := hrel
    have cA := A0.cell; have zA := A0.size; have cB := B0.cell; have zB := B0.size
    go_wp2
    go_loopw [65] (fun i wr => i = .int .i64 0 ∧ Below w.heap.size w wr) (fun _ _ => 0)
    case atStart => exact ⟨rfl, by (repeat' (first | (with_reducible (first | exact Below.refl _ _ | assumption | refine below_drewN ?_ _ | refine Below.drew ?_ | refine Below.alloc ?_ ?_ _ | refine Below.setCell ?_ ?_ _)) | go_size))⟩
    case round =>
      obtain ⟨rfl, g1⟩ := hrel
      go_wp2
      go_ret
      exact ⟨rfl, by (repeat' (first | (with_reducible (first | exact Below.refl _ _ | assumption | refine below_drewN ?_ _ | refine Below.drew ?_ | refine Below.alloc ?_ ?_ _ | refine Below.setCell ?_ ?_ _)) | go_size))⟩
set_option maxRecDepth 100000 in
set_option maxHeartbeats 4000000 in
theorem capOpsLaw_few (x : Value) (most : Int) (w : World) (KF : Hid (∀ v, Below w.heap.size w v → Calls Try.prog 12 #[x] v fun r w' => r = .returned (.bool false) ∧ Below v.heap.size v w')) : Calls Try.prog 5 #[x, .int .i64 most] w fun e w' => e = .returned (.bool true) ∧ Below w.heap.size w w' := by
  go_enter Try.func5, Try.ntmps5
  go_wp2_with fail
  refine (KF.out _ (by (repeat' (first | (with_reducible (first | exact Below.refl _ _ | assumption | refine below_drewN ?_ _ | refine Below.drew ?_ | refine Below.alloc ?_ ?_ _ | refine Below.setCell ?_ ?_ _)) | go_size)))).mono ?_
  rintro e w1 ⟨rfl, hb1⟩
  have g1 : Below w.heap.size w w1 := by refine Below.trans ?_ (hb1.mono ?_) <;> (repeat' (first | (with_reducible (first | exact Below.refl _ _ | assumption | refine below_drewN ?_ _ | refine Below.drew ?_ | refine Below.alloc ?_ ?_ _ | refine Below.setCell ?_ ?_ _)) | go_size))
  have hz1 := hb1.size
  (try simp at hz1)
  clear hb1
  go_wp2_with fail
  refine (capOne _).mono ?_
  rintro e w2 ⟨rfl, hb2⟩
  have g2 : Below w.heap.size w w2 := by refine Below.trans ?_ (hb2.mono ?_) <;> (repeat' (first | (with_reducible (first | exact Below.refl _ _ | assumption | refine below_drewN ?_ _ | refine Below.drew ?_ | refine Below.alloc ?_ ?_ _ | refine Below.setCell ?_ ?_ _)) | go_size))
  have hz2 := hb2.size
  (try simp at hz2)
  clear hb2
  go_wp2
  go_ret
  exact ⟨rfl, by (repeat' (first | (with_reducible (first | exact Below.refl _ _ | assumption | refine below_drewN ?_ _ | refine Below.drew ?_ | refine Below.alloc ?_ ?_ _ | refine Below.setCell ?_ ?_ _)) | go_size))⟩
set_option maxRecDepth 100000 in
set_option maxHeartbeats 4000000 in
theorem capOpsLaw_bad (x : Value) (most : Int) (L : List FM) (e : Int) (w : World) (he : e ≠ 0) (KF : Hid (∀ v, Below w.heap.size w v → Calls Try.prog 12 #[x] v fun r w' => r = .returned (.bool true) ∧ Below v.heap.size v w')) (KO : Hid (∀ v, Below w.heap.size w v → Calls Try.prog 21 #[x, .int .i64 most] v fun r w' => r = .returned (.tuple #[.slice none 0 0, .int .i64 e]) ∧ Below v.heap.size v w')) (KR : Hid (∀ v, Below w.heap.size w v → Calls Try.prog 16 #[x] v fun r w' => ∃ u, r = .returned u ∧ HoldRf w' v.heap.size u L ∧ Below v.heap.size v w')) (KW : Hid (∀ v b u, HoldRf v b u L → Calls Try.prog 15 #[u] v fun r w' => r = .returned (.int .i64 e) ∧ Below v.heap.size v w')) : Calls Try.prog 5 #[x, .int .i64 most] w fun e w' => e = .returned (.bool true) ∧ Below w.heap.size w w' := by
  have hxb : (e != 0) = true := bne_iff_ne.2 he
  go_enter Try.func5, Try.ntmps5
  go_wp2_with fail
  refine (KF.out _ (by (repeat' (first | (with_reducible (first | exact Below.refl _ _ | assumption | refine below_drewN ?_ _ | refine Below.drew ?_ | refine Below.alloc ?_ ?_ _ | refine Below.setCell ?_ ?_ _)) | go_size)))).mono ?_
  rintro e w1 ⟨rfl, hb1⟩
  have g1 : Below w.heap.size w w1 := by refine Below.trans ?_ (hb1.mono ?_) <;> (repeat' (first | (with_reducible (first | exact Below.refl _ _ | assumption | refine below_drewN ?_ _ | refine Below.drew ?_ | refine Below.alloc ?_ ?_ _ | refine Below.setCell ?_ ?_ _)) | go_size))
  have hz1 := hb1.size
  (try simp at hz1)
  clear hb1
  go_wp2_with fail
  refine (KO.out _ (by (repeat' (first | (with_reducible (first | exact Below.refl _ _ | assumption | refine below_drewN ?_ _ | refine Below.drew ?_ | refine Below.alloc ?_ ?_ _ | refine Below.setCell ?_ ?_ _)) | go_size)))).mono ?_
  rintro e w2 ⟨rfl, hb2⟩
  have g2 : Below w.heap.size w w2 := by refine Below.trans ?_ (hb2.mono ?_) <;> (repeat' (first | (with_reducible (first | exact Below.refl _ _ | assumption | refine below_drewN ?_ _ | refine Below.drew ?_ | refine Below.alloc ?_ ?_ _ | refine Below.setCell ?_ ?_ _)) | go_size))
  have hz2 := hb2.size
  (try simp at hz2)
  clear hb2
  go_wp2_with fail
  refine (KR.out _ (by (repeat' (first | (with_reducible (first | exact Below.refl _ _ | assumption | refine below_drewN ?_ _ | refine Below.drew ?_ | refine Below.alloc ?_ ?_ _ | refine Below.setCell ?_ ?_ _)) | go_size)))).mono ?_
  rintro e w3 ⟨u3, rfl, H3, hb3⟩
  have g3 : Below w.heap.size w w3 := by refine Below.trans ?_ (hb3.mono ?_) <;> (repeat' (first | (with_reducible (first | exact Below.refl _ _ | assumption | refine below_drewN ?_ _ | refine Below.drew ?_ | refine Below.alloc ?_ ?_ _ | refine Below.setCell ?_ ?_ _)) | go_size))
  have hz3 := hb3.size
  (try simp at hz3)
  clear hb3
  go_wp2_with fail
  refine (KW.out _ _ _ H3).mono ?_
  rintro e w4 ⟨rfl, hb4⟩
  have g4 : Below w.heap.size w w4 := by refine Below.trans ?_ (hb4.mono ?_) <;> (repeat' (first | (with_reducible (first | exact Below.refl _ _ | assumption | refine below_drewN ?_ _ | refine Below.drew ?_ | refine Below.alloc ?_ ?_ _ | refine Below.setCell ?_ ?_ _)) | go_size))
  have hz4 := hb4.size
  (try simp at hz4)
  clear hb4
  go_wp2_with fail
  refine (capOne _).mono ?_
  rintro e w5 ⟨rfl, hb5⟩
  have g5 : Below w.heap.size w w5 := by refine Below.trans ?_ (hb5.mono ?_) <;> (repeat' (first | (with_reducible (first | exact Below.refl _ _ | assumption | refine below_drewN ?_ _ | refine Below.drew ?_ | refine Below.alloc ?_ ?_ _ | refine Below.setCell ?_ ?_ _)) | go_size))
  have hz5 := hb5.size
  (try simp at hz5)
  clear hb5
  go_wp2
  go_ret
  exact ⟨rfl, by (repeat' (first | (with_reducible (first | exact Below.refl _ _ | assumption | refine below_drewN ?_ _ | refine Below.drew ?_ | refine Below.alloc ?_ ?_ _ | refine Below.setCell ?_ ?_ _)) | go_size))⟩
def opsL (most : Int) : List FM → Int → Int → List OP
  | [], _, _ => []
  | f :: r, i, last => advs last f.t ++ (pktO i f.d most :: opsL most r (i + 1) f.t)
theorem opsG_eq (most : Int) : ∀ (L : List FM) (i last : Int) (out : List OP), opsG most L i last out = out ++ opsL most L i last
  | [], _, _, _ => by simp [opsG, opsL]
  | f :: r, i, last, out => by unfold opsG opsL; rw [opsG_eq most r]; simp [List.append_assoc]
theorem opsL_len (most : Int) : ∀ (L : List FM) (i last : Int), (opsL most L i last).length ≤ 2 * L.length
  | [], _, _ => by simp [opsL]
  | f :: r, i, last => by
    unfold opsL
    have := opsL_len most r (i + 1) f.t
    rw [List.length_append, List.length_cons, List.length_cons]
    have : (advs last f.t).length ≤ 1 := by unfold advs; split <;> simp
    omega
set_option maxRecDepth 100000 in
set_option maxHeartbeats 16000000 in
theorem capOpsLaw_ok (a : Option Addr) (b off cap : Nat) (most : Int) (L : List FM) (O : List OP) (w : World) (ha : L ≠ [] → a = some ⟨b, off, none⟩) (hb : L ≠ [] → b < w.heap.size) (hL : FmAt w b off L) (ok : ∀ f ∈ L, f.ok) (hn : L.length ≤ 1000) (hcap : L.length ≤ cap) (he : capE' L 0) (hO : opsL most L 0 0 = O) (KF : Hid (∀ v, Below w.heap.size w v → Calls Try.prog 12 #[.slice a L.length cap] v fun r w' => r = .returned (.bool true) ∧ Below v.heap.size v w'))
    (KO : Hid (∀ v, Below w.heap.size w v → Calls Try.prog 21 #[.slice a L.length cap, .int .i64 most] v fun r w' => ∃ u, r = .returned (.tuple #[u, .int .i64 0]) ∧ HoldO w' v.heap.size u O ∧ Below v.heap.size v w')) (KR : Hid (∀ v, Below w.heap.size w v → Calls Try.prog 16 #[.slice a L.length cap] v fun r w' => ∃ u, r = .returned u ∧ HoldRf w' v.heap.size u L ∧ Below v.heap.size v w')) (KW : Hid (∀ v b u, HoldRf v b u L → Calls Try.prog 15 #[u] v fun r w' => r = .returned (.int .i64 0) ∧ Below v.heap.size v w'))
    (KX : Hid (∀ v b u, HoldRf v b u L → Calls Try.prog 22 #[u, .int .i64 most] v fun r w' => ∃ u', r = .returned u' ∧ HoldO w' v.heap.size u' O ∧ Below v.heap.size v w')) : Calls Try.prog 5 #[.slice a L.length cap, .int .i64 most] w fun e w' => e = .returned (.bool true) ∧ Below w.heap.size w w' := by
  have ks := sv_size
  have hOl : O.length ≤ 2000 := by rw [← hO]; have := opsL_len most L 0 0; omega
  have HE := hide he; have HO := hide hO; clear he hO
  go_enter Try.func5, Try.ntmps5
  go_wp2_with fail
  refine (KF.out _ (by (repeat' (first | (with_reducible (first | exact Below.refl _ _ | assumption | refine below_drewN ?_ _ | refine Below.drew ?_ | refine Below.alloc ?_ ?_ _ | refine Below.setCell ?_ ?_ _)) | go_size)))).mono ?_
  rintro e w1 ⟨rfl, hb1⟩
  have g1 : Below w.heap.size w w1 := by refine Below.trans ?_ (hb1.mono ?_) <;> (repeat' (first | (with_reducible (first | exact Below.refl _ _ | assumption | refine below_drewN ?_ _ | refine Below.drew ?_ | refine Below.alloc ?_ ?_ _ | refine Below.setCell ?_ ?_ _)) | go_size))
  have hz1 := hb1.size
  (try simp at hz1)
  clear hb1
  go_wp2_with fail
  refine (KO.out _ (by (repeat' (first | (with_reducible (first | exact Below.refl _ _ | assumption | refine below_drewN ?_ _ | refine Below.drew ?_ | refine Below.alloc ?_ ?_ _ | refine Below.setCell ?_ ?_ _)) | go_size)))).mono ?_
  rintro e w2 ⟨u2, rfl, O2, hb2⟩
  have g2 : Below w.heap.size w w2 := by refine Below.trans ?_ (hb2.mono ?_) <;> (repeat' (first | (with_reducible (first | exact Below.refl _ _ | assumption | refine below_drewN ?_ _ | refine Below.drew ?_ | refine Below.alloc ?_ ?_ _ | refine Below.setCell ?_ ?_ _)) | go_size))
  have hz2 := hb2.size
  (try simp at hz2)
  clear hb2
  go_wp2_with fail
  refine (KR.out _ (by (repeat' (first | (with_reducible (first | exact Below.refl _ _ | assumption | refine below_drewN ?_ _ | refine Below.drew ?_ | refine Below.alloc ?_ ?_ _ | refine Below.setCell ?_ ?_ _)) | go_size)))).mono ?_
  rintro e w3 ⟨u3, rfl, H3, hb3⟩
  have O3 := O2.below hb3; have g3 : Below w.heap.size w w3 := by refine Below.trans ?_ (hb3.mono ?_) <;> (repeat' (first | (with_reducible (first | exact Below.refl _ _ | assumption | refine below_drewN ?_ _ | refine Below.drew ?_ | refine Below.alloc ?_ ?_ _ | refine Below.setCell ?_ ?_ _)) | go_size))
  have hz3 := hb3.size
  (try simp at hz3)
  clear hb3
  go_wp2_with fail
  refine (KW.out _ _ _ H3).mono ?_
  rintro e w4 ⟨rfl, hb4⟩
  have O4 := O3.below hb4; have g4 : Below w.heap.size w w4 := by refine Below.trans ?_ (hb4.mono ?_) <;> (repeat' (first | (with_reducible (first | exact Below.refl _ _ | assumption | refine below_drewN ?_ _ | refine Below.drew ?_ | refine Below.alloc ?_ ?_ _ | refine Below.setCell ?_ ?_ _)) | go_size))
  have hz4 := hb4.size
  (try simp at hz4)
  clear hb4
  go_wp2_with fail
  refine (KR.out _ (by (repeat' (first | (with_reducible (first | exact Below.refl _ _ | assumption | refine below_drewN ?_ _ | refine Below.drew ?_ | refine Below.alloc ?_ ?_ _ | refine Below.setCell ?_ ?_ _)) | go_size)))).mono ?_
  rintro e w5 ⟨u5, rfl, H5, hb5⟩
  have O5 := O4.below hb5; have g5 : Below w.heap.size w w5 := by refine Below.trans ?_ (hb5.mono ?_) <;> (repeat' (first | (with_reducible (first | exact Below.refl _ _ | assumption | refine below_drewN ?_ _ | refine Below.drew ?_ | refine Below.alloc ?_ ?_ _ | refine Below.setCell ?_ ?_ _)) | go_size))
  have hz5 := hb5.size
  (try simp at hz5)
  clear hb5
  go_wp2_with fail
  refine (KX.out _ _ _ H5).mono ?_
  rintro e w6 ⟨u6, rfl, W6, hb6⟩
  have O6 := O5.below hb6; have g6 : Below w.heap.size w w6 := by refine Below.trans ?_ (hb6.mono ?_) <;> (repeat' (first | (with_reducible (first | exact Below.refl _ _ | assumption | refine below_drewN ?_ _ | refine Below.drew ?_ | refine Below.alloc ?_ ?_ _ | refine Below.setCell ?_ ?_ _)) | go_size))
  have hz6 := hb6.size
  (try simp at hz6)
  clear hb6
  obtain ⟨aA, cA, gA, rfl, hcA, haA, hgA, nA⟩ := HoldG.at O6 opVs_len
  obtain ⟨aW, cW, gW, rfl, hcW, haW, hgW, nW⟩ := HoldG.at W6 opVs_len
  go_wp2
  go_loopw [9, 10, 54] (fun cl n i wr => ∃ (k m : Nat) (clock : Int), k ≤ O.length ∧ m ≤ L.length ∧ (0 ≤ clock ∧ clock ≤ 4611686018427387904) ∧ i = .int .i64 k ∧ n = .int .i64 m ∧ cl = .int .u64 clock ∧ Below w6.heap.size w6 wr ∧ Hid (O.drop k = opsL most (L.drop m) m clock) ∧ Hid (capE' (L.drop m) clock)) (fun _ _ i _ => O.length - (intOf i).toNat)
  case atStart => exact ⟨0, 0, 0, Nat.zero_le _, Nat.zero_le _, by omega, rfl, rfl, rfl, by (repeat' (first | (with_reducible (first | exact Below.refl _ _ | assumption | refine below_drewN ?_ _ | refine Below.drew ?_ | refine Below.alloc ?_ ?_ _ | refine Below.setCell ?_ ?_ _)) | go_size)), hide HO.out.symm, HE⟩
  case round =>
    obtain ⟨k, m, clock, hk, hm, hck, rfl, rfl, rfl, hwr, h1, h2⟩ := hrel
    have g0 : Below w.heap.size w wr := g6.trans (hwr.mono g6.size)
    have hl0 := g0.size
    have h1' := h1.out; have h2' := h2.out
    clear h1 h2
    by_cases hlt : k < O.length
    · have hOne : O ≠ [] := by intro e; rw [e] at hlt; simp at hlt
      obtain ⟨x, hx⟩ : ∃ x, O[k]? = some x := ⟨_, List.getElem?_eq_getElem hlt⟩
      have hdk : O.drop k = x :: O.drop (k + 1) := by
        obtain ⟨hk', e⟩ := List.getElem?_eq_some_iff.1 hx
        rw [List.drop_eq_getElem_cons hk', e]
      rw [hdk] at h1'
      obtain rfl := haA hOne
      obtain rfl := haW hOne
      have gA_lt := hgA hOne; have gW_lt := hgW hOne
      have hki : (k : Int) < (O.length : Int) := by omega
      have hkb : (k : Int) ≤ 2000 := by omega
      have hml : m < L.length := by
        rcases Nat.lt_or_ge m L.length with h | h
        · exact h
        · rw [List.drop_eq_nil_of_le h] at h1'; simp [opsL] at h1'
      obtain ⟨f, hf⟩ : ∃ f, L[m]? = some f := ⟨_, List.getElem?_eq_getElem hml⟩
      have hdm := drop_next hf
      rw [hdm] at h1' h2'
      obtain ⟨e1, e2, e3, e4, e5⟩ := h2'
      have hLne : L ≠ [] := by intro e; rw [e] at hml; simp at hml
      have hbw := hb hLne
      obtain rfl := ha hLne
      have hmi : (m : Int) < (L.length : Int) := by omega
      have hmb : (m : Int) ≤ 1000 := by omega
      obtain ⟨o1, o2, o3⟩ := ok f (List.mem_of_getElem? hf)
      by_cases hc : clock < f.t
      · obtain ⟨D, hD⟩ : ∃ D, f.t - clock = D := ⟨_, rfl⟩
        have hDr : 0 ≤ D ∧ clock + D = f.t := by omega
        have hu : opsL most (f :: L.drop (m + 1)) m clock = advO D :: opsL most (f :: L.drop (m + 1)) m f.t := by
          show advs clock f.t ++ _ = _ :: (advs f.t f.t ++ _)
          unfold advs
          rw [if_pos hc, if_neg (by omega), hD]; rfl
        rw [hu] at h1'
        obtain ⟨rfl, hO1⟩ := List.cons.inj h1'
        rw [← hdm, ← hDr.2] at hO1
        have hN1 : capE' (L.drop m) (clock + D) := by rw [hdm]; exact ⟨e1, e2, by omega, e4, e5⟩
        have hwD : IntKind.u64.wrap (clock + D) = clock + D := IntWalk.u64_in _ ⟨by omega, by omega⟩
        clear h1' hu hD
        have y0 : wr.cell? ⟨gA, 0 + k * 10 + 0, none⟩ = some (.int .i64 4) := nA.below hwr gA_lt k _ hx 0 _ rfl; simp only [Nat.zero_add, Nat.add_zero] at y0
        have y1 : wr.cell? ⟨gA, 0 + k * 10 + 1, none⟩ = some (.slice none 0 0) := nA.below hwr gA_lt k _ hx 1 _ rfl; simp only [Nat.zero_add, Nat.add_zero] at y1
        have y2 : wr.cell? ⟨gA, 0 + k * 10 + 2, none⟩ = some (.slice none 0 0) := nA.below hwr gA_lt k _ hx 2 _ rfl; simp only [Nat.zero_add, Nat.add_zero] at y2
        have y3 : wr.cell? ⟨gA, 0 + k * 10 + 3, none⟩ = some (.int .u64 0) := nA.below hwr gA_lt k _ hx 3 _ rfl; simp only [Nat.zero_add, Nat.add_zero] at y3
        have y4 : wr.cell? ⟨gA, 0 + k * 10 + 4, none⟩ = some (.int .i64 0) := nA.below hwr gA_lt k _ hx 4 _ rfl; simp only [Nat.zero_add, Nat.add_zero] at y4
        have y5 : wr.cell? ⟨gA, 0 + k * 10 + 5, none⟩ = some (.int .u16 0) := nA.below hwr gA_lt k _ hx 5 _ rfl; simp only [Nat.zero_add, Nat.add_zero] at y5
        have y6 : wr.cell? ⟨gA, 0 + k * 10 + 6, none⟩ = some (.int .u16 0) := nA.below hwr gA_lt k _ hx 6 _ rfl; simp only [Nat.zero_add, Nat.add_zero] at y6
        have y7 : wr.cell? ⟨gA, 0 + k * 10 + 7, none⟩ = some (.int .u16 0) := nA.below hwr gA_lt k _ hx 7 _ rfl; simp only [Nat.zero_add, Nat.add_zero] at y7
        have y8 : wr.cell? ⟨gA, 0 + k * 10 + 8, none⟩ = some (.int .u16 0) := nA.below hwr gA_lt k _ hx 8 _ rfl; simp only [Nat.zero_add, Nat.add_zero] at y8
        have y9 : wr.cell? ⟨gA, 0 + k * 10 + 9, none⟩ = some (.int .u64 D) := nA.below hwr gA_lt k _ hx 9 _ rfl; simp only [Nat.zero_add, Nat.add_zero] at y9
        go_upto_region 15 with (fail)
        refine wp_forget (fun v => Below w.heap.size w v ∧ Below wr.heap.size wr v ∧ Blk v wr.heap.size #[.int .i64 4, .slice none 0 0, .slice none 0 0, .int .u64 0, .int .i64 0, .int .u16 0, .int .u16 0, .int .u16 0, .int .u16 0, .int .u64 D] 52) ⟨by (repeat' (first | (with_reducible (first | exact Below.refl _ _ | assumption | refine below_drewN ?_ _ | refine Below.drew ?_ | refine Below.alloc ?_ ?_ _ | refine Below.setCell ?_ ?_ _)) | go_size)), by (repeat' (first | (with_reducible (first | exact Below.refl _ _ | assumption | refine below_drewN ?_ _ | refine Below.drew ?_ | refine Below.alloc ?_ ?_ _ | refine Below.setCell ?_ ?_ _)) | go_size)), by (repeat' (first | (with_reducible (first | assumption | exact Blk.alloc_new _ _ _ (by first | rfl | (simp; done) | omega) | apply Blk.drewN | apply Blk.drew | apply Blk.alloc_old | apply Blk.set_same | apply Blk.set_other)) | (show (_ : Nat) ≠ _; first | omega | (simp; done) | (simp; omega)) | ((simp only [List.setIfInBounds_toArray, List.set_cons_succ, List.set_cons_zero]); (with_reducible exact rfl)) | (with_reducible exact rfl) | (show (_ : Array Value) = _; exact rfl)))⟩ ?_
        rintro v1 ⟨g1, hw1, X1⟩
        have hz1 := g1.size
        clear y0 y1 y2 y3 y4 y5 y6 y7 y8 y9
        
        refine wp_region_guarG [.val (.agg #[.int .i64 4, .slice none 0 0, .slice none 0 0, .int .u64 0, .int .i64 0, .int .u16 0, .int .u16 0, .int .u16 0, .int .u16 0, .int .u64 D]), .val (.slice (some ⟨gW, 0, none⟩) O.length cW), .val (.int .i64 k), .val (.pointer (some ⟨gW, k * 10, none⟩)), .val (.agg #[.int .i64 4, .slice none 0 0, .slice none 0 0, .int .u64 0, .int .i64 0, .int .u16 0, .int .u16 0, .int .u16 0, .int .u16 0, .int .u64 D]), .val (.bool true), .val (.bool false)] (by kernel_rfl) (by kernel_rfl) (by kernel_rfl) ?_ ?_
        · refine ⟨?_, ?_, ?_, ?_, ?_, ?_, ?_, trivial⟩
          · intro a v c
            have e12 : a.eval (.tmp 12) = .pointer (some ⟨wr.heap.size, 0, none⟩) := (c.off 12 (by kernel_rfl)).trans rfl
            have f12 := (eval_opt a 12).trans e12
            have bb : Below v1.heap.size v1 v := Below.trans (Below.drew (Below.refl _ _)) c.below
            have kX := X1.below bb X1.size; have cX := kX.cell
            exact gval (.agg #[.int .i64 4, .slice none 0 0, .slice none 0 0, .int .u64 0, .int .i64 0, .int .u16 0, .int .u16 0, .int .u16 0, .int .u16 0, .int .u64 D]) (by simp only [execOp, f12, e12]; go_simp) rfl
          · intro a v c
            have e8 : a.eval (.tmp 8) = .slice (some ⟨gW, 0, none⟩) O.length cW := (c.off 8 (by kernel_rfl)).trans rfl
            have f8 := (eval_opt a 8).trans e8
            exact gval (.slice (some ⟨gW, 0, none⟩) O.length cW) (by simp only [execOp, f8, e8]; go_simp) rfl
          · intro a v c
            have e11 : a.eval (.tmp 11) = .int .i64 k := (c.off 11 (by kernel_rfl)).trans rfl
            have f11 := (eval_opt a 11).trans e11
            exact gval (.int .i64 k) (by simp only [execOp, f11, e11]; go_simp) rfl
          · intro a v c
            have e60 : a.eval (.tmp 60) = .slice (some ⟨gW, 0, none⟩) O.length cW := c.dep 1 _ 60 (by kernel_rfl) rfl rfl
            have e61 : a.eval (.tmp 61) = .int .i64 k := c.dep 2 _ 61 (by kernel_rfl) rfl rfl
            have f60 := (eval_opt a 60).trans e60
            have f61 := (eval_opt a 61).trans e61
            exact gval (.pointer (some ⟨gW, k * 10, none⟩)) (by simp only [execOp, f60, f61, e60, e61]; go_simp) rfl
          · intro a v c
            have e62 : a.eval (.tmp 62) = .pointer (some ⟨gW, k * 10, none⟩) := c.dep 3 _ 62 (by kernel_rfl) rfl rfl
            have f62 := (eval_opt a 62).trans e62
            have bb : Below v1.heap.size v1 v := Below.trans (Below.drew (Below.refl _ _)) c.below
            have y0 : World.cell? v ⟨gW, 0 + k * 10 + 0, none⟩ = some (.int .i64 4) := nW.below (hwr.trans ((hw1.trans (bb.mono hw1.size)).mono hwr.size)) gW_lt k _ hx 0 _ rfl; simp only [Nat.zero_add, Nat.add_zero] at y0
            have y1 : World.cell? v ⟨gW, 0 + k * 10 + 1, none⟩ = some (.slice none 0 0) := nW.below (hwr.trans ((hw1.trans (bb.mono hw1.size)).mono hwr.size)) gW_lt k _ hx 1 _ rfl; simp only [Nat.zero_add, Nat.add_zero] at y1
            have y2 : World.cell? v ⟨gW, 0 + k * 10 + 2, none⟩ = some (.slice none 0 0) := nW.below (hwr.trans ((hw1.trans (bb.mono hw1.size)).mono hwr.size)) gW_lt k _ hx 2 _ rfl; simp only [Nat.zero_add, Nat.add_zero] at y2
            have y3 : World.cell? v ⟨gW, 0 + k * 10 + 3, none⟩ = some (.int .u64 0) := nW.below (hwr.trans ((hw1.trans (bb.mono hw1.size)).mono hwr.size)) gW_lt k _ hx 3 _ rfl; simp only [Nat.zero_add, Nat.add_zero] at y3
            have y4 : World.cell? v ⟨gW, 0 + k * 10 + 4, none⟩ = some (.int .i64 0) := nW.below (hwr.trans ((hw1.trans (bb.mono hw1.size)).mono hwr.size)) gW_lt k _ hx 4 _ rfl; simp only [Nat.zero_add, Nat.add_zero] at y4
            have y5 : World.cell? v ⟨gW, 0 + k * 10 + 5, none⟩ = some (.int .u16 0) := nW.below (hwr.trans ((hw1.trans (bb.mono hw1.size)).mono hwr.size)) gW_lt k _ hx 5 _ rfl; simp only [Nat.zero_add, Nat.add_zero] at y5
            have y6 : World.cell? v ⟨gW, 0 + k * 10 + 6, none⟩ = some (.int .u16 0) := nW.below (hwr.trans ((hw1.trans (bb.mono hw1.size)).mono hwr.size)) gW_lt k _ hx 6 _ rfl; simp only [Nat.zero_add, Nat.add_zero] at y6
            have y7 : World.cell? v ⟨gW, 0 + k * 10 + 7, none⟩ = some (.int .u16 0) := nW.below (hwr.trans ((hw1.trans (bb.mono hw1.size)).mono hwr.size)) gW_lt k _ hx 7 _ rfl; simp only [Nat.zero_add, Nat.add_zero] at y7
            have y8 : World.cell? v ⟨gW, 0 + k * 10 + 8, none⟩ = some (.int .u16 0) := nW.below (hwr.trans ((hw1.trans (bb.mono hw1.size)).mono hwr.size)) gW_lt k _ hx 8 _ rfl; simp only [Nat.zero_add, Nat.add_zero] at y8
            have y9 : World.cell? v ⟨gW, 0 + k * 10 + 9, none⟩ = some (.int .u64 D) := nW.below (hwr.trans ((hw1.trans (bb.mono hw1.size)).mono hwr.size)) gW_lt k _ hx 9 _ rfl; simp only [Nat.zero_add, Nat.add_zero] at y9
            exact gval (.agg #[.int .i64 4, .slice none 0 0, .slice none 0 0, .int .u64 0, .int .i64 0, .int .u16 0, .int .u16 0, .int .u16 0, .int .u16 0, .int .u64 D]) (by simp only [execOp, f62, e62]; go_simp) rfl
          · intro a v c
            have e59 : a.eval (.tmp 59) = .agg #[.int .i64 4, .slice none 0 0, .slice none 0 0, .int .u64 0, .int .i64 0, .int .u16 0, .int .u16 0, .int .u16 0, .int .u16 0, .int .u64 D] := c.dep 0 _ 59 (by kernel_rfl) rfl rfl
            have e63 : a.eval (.tmp 63) = .agg #[.int .i64 4, .slice none 0 0, .slice none 0 0, .int .u64 0, .int .i64 0, .int .u16 0, .int .u16 0, .int .u16 0, .int .u16 0, .int .u64 D] := c.dep 4 _ 63 (by kernel_rfl) rfl rfl
            have f59 := (eval_opt a 59).trans e59
            have f63 := (eval_opt a 63).trans e63
            exact gcall (.bool true) 23 #[.agg #[.int .i64 4, .slice none 0 0, .slice none 0 0, .int .u64 0, .int .i64 0, .int .u16 0, .int .u16 0, .int .u16 0, .int .u16 0, .int .u64 D], .agg #[.int .i64 4, .slice none 0 0, .slice none 0 0, .int .u64 0, .int .i64 0, .int .u16 0, .int .u16 0, .int .u16 0, .int .u16 0, .int .u64 D]] (by simp only [execOp, f59, f63, e59, e63]; go_simp) (rSame29 4 0 0 D ⟨0, 0, 0, 0⟩ _) (fun _ => rfl)
          · intro a v c
            have e64 : a.eval (.tmp 64) = .bool true := c.dep 5 _ 64 (by kernel_rfl) rfl rfl
            have f64 := (eval_opt a 64).trans e64
            exact gval (.bool false) (by simp only [execOp, f64, e64]; go_simp) rfl
        intro a v hb hd ho hs hf
        have e65 : a.eval (.tmp 65) = .bool false := hd 6 _ 65 rfl rfl
        have gG := g1.trans (hb.mono g1.size)
        have hw2 : Below wr.heap.size wr v := hw1.trans (hb.mono hw1.size)
        have X2 : Blk v wr.heap.size #[.int .i64 4, .slice none 0 0, .slice none 0 0, .int .u64 0, .int .i64 0, .int .u16 0, .int .u16 0, .int .u16 0, .int .u16 0, .int .u64 D] 52 := X1.below hb X1.size
        rw [frame_eta a 116 hs, hf]
        simp only [List.range, List.range.loop, List.map_cons, List.map_nil, e65, ho 0 (by kernel_rfl), ho 1 (by kernel_rfl), ho 2 (by kernel_rfl), ho 3 (by kernel_rfl), ho 4 (by kernel_rfl), ho 5 (by kernel_rfl), ho 6 (by kernel_rfl), ho 7 (by kernel_rfl), ho 8 (by kernel_rfl), ho 9 (by kernel_rfl), ho 10 (by kernel_rfl), ho 11 (by kernel_rfl), ho 12 (by kernel_rfl), ho 13 (by kernel_rfl), ho 14 (by kernel_rfl), ho 15 (by kernel_rfl), ho 16 (by kernel_rfl), ho 17 (by kernel_rfl), ho 18 (by kernel_rfl), ho 19 (by kernel_rfl), ho 20 (by kernel_rfl), ho 21 (by kernel_rfl), ho 22 (by kernel_rfl), ho 23 (by kernel_rfl), ho 24 (by kernel_rfl), ho 25 (by kernel_rfl), ho 26 (by kernel_rfl), ho 27 (by kernel_rfl), ho 28 (by kernel_rfl), ho 29 (by kernel_rfl), ho 30 (by kernel_rfl), ho 31 (by kernel_rfl), ho 32 (by kernel_rfl), ho 33 (by kernel_rfl), ho 34 (by kernel_rfl), ho 35 (by kernel_rfl), ho 36 (by kernel_rfl), ho 37 (by kernel_rfl), ho 38 (by kernel_rfl), ho 39 (by kernel_rfl), ho 40 (by kernel_rfl), ho 41 (by kernel_rfl), ho 42 (by kernel_rfl), ho 43 (by kernel_rfl), ho 44 (by kernel_rfl), ho 45 (by kernel_rfl), ho 46 (by kernel_rfl), ho 47 (by kernel_rfl), ho 48 (by kernel_rfl), ho 49 (by kernel_rfl), ho 50 (by kernel_rfl), ho 51 (by kernel_rfl), ho 52 (by kernel_rfl), ho 53 (by kernel_rfl), ho 54 (by kernel_rfl), ho 55 (by kernel_rfl), ho 56 (by kernel_rfl), ho 57 (by kernel_rfl), ho 58 (by kernel_rfl), ho 66 (by kernel_rfl), ho 67 (by kernel_rfl), ho 68 (by kernel_rfl), ho 69 (by kernel_rfl), ho 70 (by kernel_rfl), ho 71 (by kernel_rfl), ho 72 (by kernel_rfl), ho 73 (by kernel_rfl), ho 74 (by kernel_rfl), ho 75 (by kernel_rfl), ho 76 (by kernel_rfl), ho 77 (by kernel_rfl), ho 78 (by kernel_rfl), ho 79 (by kernel_rfl), ho 80 (by kernel_rfl), ho 81 (by kernel_rfl), ho 82 (by kernel_rfl), ho 83 (by kernel_rfl), ho 84 (by kernel_rfl), ho 85 (by kernel_rfl), ho 86 (by kernel_rfl), ho 87 (by kernel_rfl), ho 88 (by kernel_rfl), ho 89 (by kernel_rfl), ho 90 (by kernel_rfl), ho 91 (by kernel_rfl), ho 92 (by kernel_rfl), ho 93 (by kernel_rfl), ho 94 (by kernel_rfl), ho 95 (by kernel_rfl), ho 96 (by kernel_rfl), ho 97 (by kernel_rfl), ho 98 (by kernel_rfl), ho 99 (by kernel_rfl), ho 100 (by kernel_rfl), ho 101 (by kernel_rfl), ho 102 (by kernel_rfl), ho 103 (by kernel_rfl), ho 104 (by kernel_rfl), ho 105 (by kernel_rfl), ho 106 (by kernel_rfl), ho 107 (by kernel_rfl), ho 108 (by kernel_rfl), ho 109 (by kernel_rfl), ho 110 (by kernel_rfl), ho 111 (by kernel_rfl), ho 112 (by kernel_rfl), ho 113 (by kernel_rfl), ho 114 (by kernel_rfl), ho 115 (by kernel_rfl)]
        clear hd ho hf hs hb e65
        generalize a.eval (.tmp 59) = u59
        generalize a.eval (.tmp 60) = u60
        generalize a.eval (.tmp 61) = u61
        generalize a.eval (.tmp 62) = u62
        generalize a.eval (.tmp 63) = u63
        generalize a.eval (.tmp 64) = u64
        clear a
        go_simp
        have cX := X2.cell; have fX := X2.frozen; have zX := X2.size; have hz2 := gG.size
        go_wp2
        go_roundw
        case rel => exact ⟨k + 1, m, clock + D, by omega, by omega, by omega, by go_num, rfl, by first | rfl | rw [hDr.2], hwr.trans (hw2.mono hwr.size), hide hO1, hide hN1⟩
        case measure => simp [intOf]; omega
      · obtain rfl : clock = f.t := by omega
        obtain ⟨K, hK⟩ : ∃ K, pktK f.d most = K := ⟨_, rfl⟩
        have hpk : pktO m f.d most = ⟨3, m, f.d.length, K, 0⟩ := by unfold pktO; rw [hK]
        have hu : opsL most (f :: L.drop (m + 1)) m f.t = ⟨3, m, f.d.length, K, 0⟩ :: opsL most (L.drop (m + 1)) ((m + 1 : Nat) : Int) f.t := by
          show advs f.t f.t ++ _ = _
          unfold advs
          rw [if_neg (by omega), hpk]; rfl
        rw [hu] at h1'
        obtain ⟨rfl, hO1⟩ := List.cons.inj h1'
        have hN1 : capE' (L.drop (m + 1)) f.t := e5
        have hwm : IntKind.u64.wrap (m : Int) = (m : Int) := IntWalk.u64_in _ ⟨by omega, by omega⟩
        have hge : decide ((L.length : Int) ≤ (m : Int)) = false := decide_eq_false (by omega)
        have hgen : decide (L.length ≤ m) = false := decide_eq_false (by omega)
        clear h1' hu hK hpk
        have y0 : wr.cell? ⟨gA, 0 + k * 10 + 0, none⟩ = some (.int .i64 3) := nA.below hwr gA_lt k _ hx 0 _ rfl; simp only [Nat.zero_add, Nat.add_zero] at y0
        have y1 : wr.cell? ⟨gA, 0 + k * 10 + 1, none⟩ = some (.slice none 0 0) := nA.below hwr gA_lt k _ hx 1 _ rfl; simp only [Nat.zero_add, Nat.add_zero] at y1
        have y2 : wr.cell? ⟨gA, 0 + k * 10 + 2, none⟩ = some (.slice none 0 0) := nA.below hwr gA_lt k _ hx 2 _ rfl; simp only [Nat.zero_add, Nat.add_zero] at y2
        have y3 : wr.cell? ⟨gA, 0 + k * 10 + 3, none⟩ = some (.int .u64 m) := nA.below hwr gA_lt k _ hx 3 _ rfl; simp only [Nat.zero_add, Nat.add_zero] at y3
        have y4 : wr.cell? ⟨gA, 0 + k * 10 + 4, none⟩ = some (.int .i64 f.d.length) := nA.below hwr gA_lt k _ hx 4 _ rfl; simp only [Nat.zero_add, Nat.add_zero] at y4
        have y5 : wr.cell? ⟨gA, 0 + k * 10 + 5, none⟩ = some (.int .u16 K.a) := nA.below hwr gA_lt k _ hx 5 _ rfl; simp only [Nat.zero_add, Nat.add_zero] at y5
        have y6 : wr.cell? ⟨gA, 0 + k * 10 + 6, none⟩ = some (.int .u16 K.b) := nA.below hwr gA_lt k _ hx 6 _ rfl; simp only [Nat.zero_add, Nat.add_zero] at y6
        have y7 : wr.cell? ⟨gA, 0 + k * 10 + 7, none⟩ = some (.int .u16 K.c) := nA.below hwr gA_lt k _ hx 7 _ rfl; simp only [Nat.zero_add, Nat.add_zero] at y7
        have y8 : wr.cell? ⟨gA, 0 + k * 10 + 8, none⟩ = some (.int .u16 K.d) := nA.below hwr gA_lt k _ hx 8 _ rfl; simp only [Nat.zero_add, Nat.add_zero] at y8
        have y9 : wr.cell? ⟨gA, 0 + k * 10 + 9, none⟩ = some (.int .u64 0) := nA.below hwr gA_lt k _ hx 9 _ rfl; simp only [Nat.zero_add, Nat.add_zero] at y9
        go_upto_region 15 with (fail)
        refine wp_forget (fun v => Below w.heap.size w v ∧ Below wr.heap.size wr v ∧ Blk v wr.heap.size #[.int .i64 3, .slice none 0 0, .slice none 0 0, .int .u64 m, .int .i64 f.d.length, .int .u16 K.a, .int .u16 K.b, .int .u16 K.c, .int .u16 K.d, .int .u64 0] 52) ⟨by (repeat' (first | (with_reducible (first | exact Below.refl _ _ | assumption | refine below_drewN ?_ _ | refine Below.drew ?_ | refine Below.alloc ?_ ?_ _ | refine Below.setCell ?_ ?_ _)) | go_size)), by (repeat' (first | (with_reducible (first | exact Below.refl _ _ | assumption | refine below_drewN ?_ _ | refine Below.drew ?_ | refine Below.alloc ?_ ?_ _ | refine Below.setCell ?_ ?_ _)) | go_size)), by (repeat' (first | (with_reducible (first | assumption | exact Blk.alloc_new _ _ _ (by first | rfl | (simp; done) | omega) | apply Blk.drewN | apply Blk.drew | apply Blk.alloc_old | apply Blk.set_same | apply Blk.set_other)) | (show (_ : Nat) ≠ _; first | omega | (simp; done) | (simp; omega)) | ((simp only [List.setIfInBounds_toArray, List.set_cons_succ, List.set_cons_zero]); (with_reducible exact rfl)) | (with_reducible exact rfl) | (show (_ : Array Value) = _; exact rfl)))⟩ ?_
        rintro v1 ⟨g1, hw1, X1⟩
        have hz1 := g1.size
        clear y0 y1 y2 y3 y4 y5 y6 y7 y8 y9
        
        refine wp_region_guarG [.val (.agg #[.int .i64 3, .slice none 0 0, .slice none 0 0, .int .u64 m, .int .i64 f.d.length, .int .u16 K.a, .int .u16 K.b, .int .u16 K.c, .int .u16 K.d, .int .u64 0]), .val (.slice (some ⟨gW, 0, none⟩) O.length cW), .val (.int .i64 k), .val (.pointer (some ⟨gW, k * 10, none⟩)), .val (.agg #[.int .i64 3, .slice none 0 0, .slice none 0 0, .int .u64 m, .int .i64 f.d.length, .int .u16 K.a, .int .u16 K.b, .int .u16 K.c, .int .u16 K.d, .int .u64 0]), .val (.bool true), .val (.bool false)] (by kernel_rfl) (by kernel_rfl) (by kernel_rfl) ?_ ?_
        · refine ⟨?_, ?_, ?_, ?_, ?_, ?_, ?_, trivial⟩
          · intro a v c
            have e12 : a.eval (.tmp 12) = .pointer (some ⟨wr.heap.size, 0, none⟩) := (c.off 12 (by kernel_rfl)).trans rfl
            have f12 := (eval_opt a 12).trans e12
            have bb : Below v1.heap.size v1 v := Below.trans (Below.drew (Below.refl _ _)) c.below
            have kX := X1.below bb X1.size; have cX := kX.cell
            exact gval (.agg #[.int .i64 3, .slice none 0 0, .slice none 0 0, .int .u64 m, .int .i64 f.d.length, .int .u16 K.a, .int .u16 K.b, .int .u16 K.c, .int .u16 K.d, .int .u64 0]) (by simp only [execOp, f12, e12]; go_simp) rfl
          · intro a v c
            have e8 : a.eval (.tmp 8) = .slice (some ⟨gW, 0, none⟩) O.length cW := (c.off 8 (by kernel_rfl)).trans rfl
            have f8 := (eval_opt a 8).trans e8
            exact gval (.slice (some ⟨gW, 0, none⟩) O.length cW) (by simp only [execOp, f8, e8]; go_simp) rfl
          · intro a v c
            have e11 : a.eval (.tmp 11) = .int .i64 k := (c.off 11 (by kernel_rfl)).trans rfl
            have f11 := (eval_opt a 11).trans e11
            exact gval (.int .i64 k) (by simp only [execOp, f11, e11]; go_simp) rfl
          · intro a v c
            have e60 : a.eval (.tmp 60) = .slice (some ⟨gW, 0, none⟩) O.length cW := c.dep 1 _ 60 (by kernel_rfl) rfl rfl
            have e61 : a.eval (.tmp 61) = .int .i64 k := c.dep 2 _ 61 (by kernel_rfl) rfl rfl
            have f60 := (eval_opt a 60).trans e60
            have f61 := (eval_opt a 61).trans e61
            exact gval (.pointer (some ⟨gW, k * 10, none⟩)) (by simp only [execOp, f60, f61, e60, e61]; go_simp) rfl
          · intro a v c
            have e62 : a.eval (.tmp 62) = .pointer (some ⟨gW, k * 10, none⟩) := c.dep 3 _ 62 (by kernel_rfl) rfl rfl
            have f62 := (eval_opt a 62).trans e62
            have bb : Below v1.heap.size v1 v := Below.trans (Below.drew (Below.refl _ _)) c.below
            have y0 : World.cell? v ⟨gW, 0 + k * 10 + 0, none⟩ = some (.int .i64 3) := nW.below (hwr.trans ((hw1.trans (bb.mono hw1.size)).mono hwr.size)) gW_lt k _ hx 0 _ rfl; simp only [Nat.zero_add, Nat.add_zero] at y0
            have y1 : World.cell? v ⟨gW, 0 + k * 10 + 1, none⟩ = some (.slice none 0 0) := nW.below (hwr.trans ((hw1.trans (bb.mono hw1.size)).mono hwr.size)) gW_lt k _ hx 1 _ rfl; simp only [Nat.zero_add, Nat.add_zero] at y1
            have y2 : World.cell? v ⟨gW, 0 + k * 10 + 2, none⟩ = some (.slice none 0 0) := nW.below (hwr.trans ((hw1.trans (bb.mono hw1.size)).mono hwr.size)) gW_lt k _ hx 2 _ rfl; simp only [Nat.zero_add, Nat.add_zero] at y2
            have y3 : World.cell? v ⟨gW, 0 + k * 10 + 3, none⟩ = some (.int .u64 m) := nW.below (hwr.trans ((hw1.trans (bb.mono hw1.size)).mono hwr.size)) gW_lt k _ hx 3 _ rfl; simp only [Nat.zero_add, Nat.add_zero] at y3
            have y4 : World.cell? v ⟨gW, 0 + k * 10 + 4, none⟩ = some (.int .i64 f.d.length) := nW.below (hwr.trans ((hw1.trans (bb.mono hw1.size)).mono hwr.size)) gW_lt k _ hx 4 _ rfl; simp only [Nat.zero_add, Nat.add_zero] at y4
            have y5 : World.cell? v ⟨gW, 0 + k * 10 + 5, none⟩ = some (.int .u16 K.a) := nW.below (hwr.trans ((hw1.trans (bb.mono hw1.size)).mono hwr.size)) gW_lt k _ hx 5 _ rfl; simp only [Nat.zero_add, Nat.add_zero] at y5
            have y6 : World.cell? v ⟨gW, 0 + k * 10 + 6, none⟩ = some (.int .u16 K.b) := nW.below (hwr.trans ((hw1.trans (bb.mono hw1.size)).mono hwr.size)) gW_lt k _ hx 6 _ rfl; simp only [Nat.zero_add, Nat.add_zero] at y6
            have y7 : World.cell? v ⟨gW, 0 + k * 10 + 7, none⟩ = some (.int .u16 K.c) := nW.below (hwr.trans ((hw1.trans (bb.mono hw1.size)).mono hwr.size)) gW_lt k _ hx 7 _ rfl; simp only [Nat.zero_add, Nat.add_zero] at y7
            have y8 : World.cell? v ⟨gW, 0 + k * 10 + 8, none⟩ = some (.int .u16 K.d) := nW.below (hwr.trans ((hw1.trans (bb.mono hw1.size)).mono hwr.size)) gW_lt k _ hx 8 _ rfl; simp only [Nat.zero_add, Nat.add_zero] at y8
            have y9 : World.cell? v ⟨gW, 0 + k * 10 + 9, none⟩ = some (.int .u64 0) := nW.below (hwr.trans ((hw1.trans (bb.mono hw1.size)).mono hwr.size)) gW_lt k _ hx 9 _ rfl; simp only [Nat.zero_add, Nat.add_zero] at y9
            exact gval (.agg #[.int .i64 3, .slice none 0 0, .slice none 0 0, .int .u64 m, .int .i64 f.d.length, .int .u16 K.a, .int .u16 K.b, .int .u16 K.c, .int .u16 K.d, .int .u64 0]) (by simp only [execOp, f62, e62]; go_simp) rfl
          · intro a v c
            have e59 : a.eval (.tmp 59) = .agg #[.int .i64 3, .slice none 0 0, .slice none 0 0, .int .u64 m, .int .i64 f.d.length, .int .u16 K.a, .int .u16 K.b, .int .u16 K.c, .int .u16 K.d, .int .u64 0] := c.dep 0 _ 59 (by kernel_rfl) rfl rfl
            have e63 : a.eval (.tmp 63) = .agg #[.int .i64 3, .slice none 0 0, .slice none 0 0, .int .u64 m, .int .i64 f.d.length, .int .u16 K.a, .int .u16 K.b, .int .u16 K.c, .int .u16 K.d, .int .u64 0] := c.dep 4 _ 63 (by kernel_rfl) rfl rfl
            have f59 := (eval_opt a 59).trans e59
            have f63 := (eval_opt a 63).trans e63
            exact gcall (.bool true) 23 #[.agg #[.int .i64 3, .slice none 0 0, .slice none 0 0, .int .u64 m, .int .i64 f.d.length, .int .u16 K.a, .int .u16 K.b, .int .u16 K.c, .int .u16 K.d, .int .u64 0], .agg #[.int .i64 3, .slice none 0 0, .slice none 0 0, .int .u64 m, .int .i64 f.d.length, .int .u16 K.a, .int .u16 K.b, .int .u16 K.c, .int .u16 K.d, .int .u64 0]] (by simp only [execOp, f59, f63, e59, e63]; go_simp) (rSame29 3 m f.d.length 0 K _) (fun _ => rfl)
          · intro a v c
            have e64 : a.eval (.tmp 64) = .bool true := c.dep 5 _ 64 (by kernel_rfl) rfl rfl
            have f64 := (eval_opt a 64).trans e64
            exact gval (.bool false) (by simp only [execOp, f64, e64]; go_simp) rfl
        intro a v hb hd ho hs hf
        have e65 : a.eval (.tmp 65) = .bool false := hd 6 _ 65 rfl rfl
        have gG := g1.trans (hb.mono g1.size)
        have hw2 : Below wr.heap.size wr v := hw1.trans (hb.mono hw1.size)
        have X2 : Blk v wr.heap.size #[.int .i64 3, .slice none 0 0, .slice none 0 0, .int .u64 m, .int .i64 f.d.length, .int .u16 K.a, .int .u16 K.b, .int .u16 K.c, .int .u16 K.d, .int .u64 0] 52 := X1.below hb X1.size
        rw [frame_eta a 116 hs, hf]
        simp only [List.range, List.range.loop, List.map_cons, List.map_nil, e65, ho 0 (by kernel_rfl), ho 1 (by kernel_rfl), ho 2 (by kernel_rfl), ho 3 (by kernel_rfl), ho 4 (by kernel_rfl), ho 5 (by kernel_rfl), ho 6 (by kernel_rfl), ho 7 (by kernel_rfl), ho 8 (by kernel_rfl), ho 9 (by kernel_rfl), ho 10 (by kernel_rfl), ho 11 (by kernel_rfl), ho 12 (by kernel_rfl), ho 13 (by kernel_rfl), ho 14 (by kernel_rfl), ho 15 (by kernel_rfl), ho 16 (by kernel_rfl), ho 17 (by kernel_rfl), ho 18 (by kernel_rfl), ho 19 (by kernel_rfl), ho 20 (by kernel_rfl), ho 21 (by kernel_rfl), ho 22 (by kernel_rfl), ho 23 (by kernel_rfl), ho 24 (by kernel_rfl), ho 25 (by kernel_rfl), ho 26 (by kernel_rfl), ho 27 (by kernel_rfl), ho 28 (by kernel_rfl), ho 29 (by kernel_rfl), ho 30 (by kernel_rfl), ho 31 (by kernel_rfl), ho 32 (by kernel_rfl), ho 33 (by kernel_rfl), ho 34 (by kernel_rfl), ho 35 (by kernel_rfl), ho 36 (by kernel_rfl), ho 37 (by kernel_rfl), ho 38 (by kernel_rfl), ho 39 (by kernel_rfl), ho 40 (by kernel_rfl), ho 41 (by kernel_rfl), ho 42 (by kernel_rfl), ho 43 (by kernel_rfl), ho 44 (by kernel_rfl), ho 45 (by kernel_rfl), ho 46 (by kernel_rfl), ho 47 (by kernel_rfl), ho 48 (by kernel_rfl), ho 49 (by kernel_rfl), ho 50 (by kernel_rfl), ho 51 (by kernel_rfl), ho 52 (by kernel_rfl), ho 53 (by kernel_rfl), ho 54 (by kernel_rfl), ho 55 (by kernel_rfl), ho 56 (by kernel_rfl), ho 57 (by kernel_rfl), ho 58 (by kernel_rfl), ho 66 (by kernel_rfl), ho 67 (by kernel_rfl), ho 68 (by kernel_rfl), ho 69 (by kernel_rfl), ho 70 (by kernel_rfl), ho 71 (by kernel_rfl), ho 72 (by kernel_rfl), ho 73 (by kernel_rfl), ho 74 (by kernel_rfl), ho 75 (by kernel_rfl), ho 76 (by kernel_rfl), ho 77 (by kernel_rfl), ho 78 (by kernel_rfl), ho 79 (by kernel_rfl), ho 80 (by kernel_rfl), ho 81 (by kernel_rfl), ho 82 (by kernel_rfl), ho 83 (by kernel_rfl), ho 84 (by kernel_rfl), ho 85 (by kernel_rfl), ho 86 (by kernel_rfl), ho 87 (by kernel_rfl), ho 88 (by kernel_rfl), ho 89 (by kernel_rfl), ho 90 (by kernel_rfl), ho 91 (by kernel_rfl), ho 92 (by kernel_rfl), ho 93 (by kernel_rfl), ho 94 (by kernel_rfl), ho 95 (by kernel_rfl), ho 96 (by kernel_rfl), ho 97 (by kernel_rfl), ho 98 (by kernel_rfl), ho 99 (by kernel_rfl), ho 100 (by kernel_rfl), ho 101 (by kernel_rfl), ho 102 (by kernel_rfl), ho 103 (by kernel_rfl), ho 104 (by kernel_rfl), ho 105 (by kernel_rfl), ho 106 (by kernel_rfl), ho 107 (by kernel_rfl), ho 108 (by kernel_rfl), ho 109 (by kernel_rfl), ho 110 (by kernel_rfl), ho 111 (by kernel_rfl), ho 112 (by kernel_rfl), ho 113 (by kernel_rfl), ho 114 (by kernel_rfl), ho 115 (by kernel_rfl)]
        clear hd ho hf hs hb e65
        generalize a.eval (.tmp 59) = u59
        generalize a.eval (.tmp 60) = u60
        generalize a.eval (.tmp 61) = u61
        generalize a.eval (.tmp 62) = u62
        generalize a.eval (.tmp 63) = u63
        generalize a.eval (.tmp 64) = u64
        clear a
        go_simp
        have cX := X2.cell; have fX := X2.frozen; have zX := X2.size; have hz2 := gG.size
        have hg2 : Below w.heap.size w v := gG
        go_upto_region 19 with (fail)
        refine wp_region_guarG [.val (.int .i64 m), .val (.slice (some ⟨b, off, none⟩) L.length cap), .val (.int .i64 L.length), .val (.bool false), .val (.bool false), .val (.slice (some ⟨b, off, none⟩) L.length cap), .val (.int .i64 m), .val (.pointer (some ⟨b, off + m * 2, none⟩)), .val (.pointer (some ⟨b, off + m * 2, none⟩)), .val (.int .u64 f.t), .val (.int .u64 f.t), .val (.bool false), .val (.bool false), .val (.bool false), .val (.pointer (some ⟨wr.heap.size, 3, none⟩)), .val (.pointer (some ⟨wr.heap.size, 3, none⟩)), .val (.int .u64 m), .val (.int .i64 m), .val (.int .u64 m), .val (.bool false), .val (.bool false), .val (.bool false), .val (.pointer (some ⟨wr.heap.size, 3, none⟩)), .val (.pointer (some ⟨wr.heap.size, 4, none⟩)), .val (.int .i64 f.d.length), .val (.slice (some ⟨b, off, none⟩) L.length cap), .val (.int .i64 m), .val (.pointer (some ⟨b, off + m * 2, none⟩)), .val (.pointer (some ⟨b, off + m * 2 + 1, none⟩)), .val (SV f.d), .val (.int .i64 f.d.length), .val (.bool false), .val (.bool false)] (by kernel_rfl) (by kernel_rfl) (by kernel_rfl) ?_ ?_
        · refine ⟨?_, ?_, ?_, ?_, ?_, ?_, ?_, ?_, ?_, ?_, ?_, ?_, ?_, ?_, ?_, ?_, ?_, ?_, ?_, ?_, ?_, ?_, ?_, ?_, ?_, ?_, ?_, ?_, ?_, ?_, ?_, ?_, ?_, trivial⟩
          · intro a v3 c
            have e10 : a.eval (.tmp 10) = .int .i64 m := (c.off 10 (by kernel_rfl)).trans rfl
            have f10 := (eval_opt a 10).trans e10
            exact gval (.int .i64 m) (by simp only [execOp, f10, e10]; go_simp) rfl
          · intro a v3 c
            have e0 : a.eval (.tmp 0) = .slice (some ⟨b, off, none⟩) L.length cap := (c.off 0 (by kernel_rfl)).trans rfl
            have f0 := (eval_opt a 0).trans e0
            exact gval (.slice (some ⟨b, off, none⟩) L.length cap) (by simp only [execOp, f0, e0]; go_simp) rfl
          · intro a v3 c
            have e74 : a.eval (.tmp 74) = .slice (some ⟨b, off, none⟩) L.length cap := c.dep 1 _ 74 (by kernel_rfl) rfl rfl
            have f74 := (eval_opt a 74).trans e74
            exact gval (.int .i64 L.length) (by simp only [execOp, f74, e74]; go_simp) rfl
          · intro a v3 c
            have e73 : a.eval (.tmp 73) = .int .i64 m := c.dep 0 _ 73 (by kernel_rfl) rfl rfl
            have e75 : a.eval (.tmp 75) = .int .i64 L.length := c.dep 2 _ 75 (by kernel_rfl) rfl rfl
            have f73 := (eval_opt a 73).trans e73
            have f75 := (eval_opt a 75).trans e75
            exact gval (.bool false) (by simp only [execOp, f73, f75, e73, e75]; go_simp) rfl
          · intro a v3 c
            have e76 : a.eval (.tmp 76) = .bool false := c.dep 3 _ 76 (by kernel_rfl) rfl rfl
            have f76 := (eval_opt a 76).trans e76
            exact gval (.bool false) (by simp only [execOp, f76, e76]; go_simp) rfl
          · intro a v3 c
            have e0 : a.eval (.tmp 0) = .slice (some ⟨b, off, none⟩) L.length cap := (c.off 0 (by kernel_rfl)).trans rfl
            have f0 := (eval_opt a 0).trans e0
            exact gval (.slice (some ⟨b, off, none⟩) L.length cap) (by simp only [execOp, f0, e0]; go_simp) rfl
          · intro a v3 c
            have e10 : a.eval (.tmp 10) = .int .i64 m := (c.off 10 (by kernel_rfl)).trans rfl
            have f10 := (eval_opt a 10).trans e10
            exact gval (.int .i64 m) (by simp only [execOp, f10, e10]; go_simp) rfl
          · intro a v3 c
            have e78 : a.eval (.tmp 78) = .slice (some ⟨b, off, none⟩) L.length cap := c.dep 5 _ 78 (by kernel_rfl) rfl rfl
            have e79 : a.eval (.tmp 79) = .int .i64 m := c.dep 6 _ 79 (by kernel_rfl) rfl rfl
            have f78 := (eval_opt a 78).trans e78
            have f79 := (eval_opt a 79).trans e79
            exact gval (.pointer (some ⟨b, off + m * 2, none⟩)) (by simp only [execOp, f78, f79, e78, e79]; go_simp) rfl
          · intro a v3 c
            have e80 : a.eval (.tmp 80) = .pointer (some ⟨b, off + m * 2, none⟩) := c.dep 7 _ 80 (by kernel_rfl) rfl rfl
            have f80 := (eval_opt a 80).trans e80
            exact gval (.pointer (some ⟨b, off + m * 2, none⟩)) (by simp only [execOp, f80, e80]; go_simp) rfl
          · intro a v3 c
            have e81 : a.eval (.tmp 81) = .pointer (some ⟨b, off + m * 2, none⟩) := c.dep 8 _ 81 (by kernel_rfl) rfl rfl
            have f81 := (eval_opt a 81).trans e81
            have bb : Below v.heap.size v v3 := Below.trans (Below.drew (Below.refl _ _)) c.below
            have y0 := (hL.below (hg2.trans (bb.mono hg2.size)) hbw _ _ hf).1
            exact gval (.int .u64 f.t) (by simp only [execOp, f81, e81]; go_simp) rfl
          · intro a v3 c
            have e9 : a.eval (.tmp 9) = .int .u64 f.t := (c.off 9 (by kernel_rfl)).trans rfl
            have f9 := (eval_opt a 9).trans e9
            exact gval (.int .u64 f.t) (by simp only [execOp, f9, e9]; go_simp) rfl
          · intro a v3 c
            have e82 : a.eval (.tmp 82) = .int .u64 f.t := c.dep 9 _ 82 (by kernel_rfl) rfl rfl
            have e83 : a.eval (.tmp 83) = .int .u64 f.t := c.dep 10 _ 83 (by kernel_rfl) rfl rfl
            have f82 := (eval_opt a 82).trans e82
            have f83 := (eval_opt a 83).trans e83
            exact gval (.bool false) (by simp only [execOp, f82, f83, e82, e83]; go_simp) rfl
          · intro a v3 c
            have e77 : a.eval (.tmp 77) = .bool false := c.dep 4 _ 77 (by kernel_rfl) rfl rfl
            have e84 : a.eval (.tmp 84) = .bool false := c.dep 11 _ 84 (by kernel_rfl) rfl rfl
            have f77 := (eval_opt a 77).trans e77
            have f84 := (eval_opt a 84).trans e84
            exact gval (.bool false) (by simp only [execOp, f77, f84, e77, e84]; go_simp) rfl
          · intro a v3 c
            have e85 : a.eval (.tmp 85) = .bool false := c.dep 12 _ 85 (by kernel_rfl) rfl rfl
            have f85 := (eval_opt a 85).trans e85
            exact gval (.bool false) (by simp only [execOp, f85, e85]; go_simp) rfl
          · intro a v3 c
            have e12 : a.eval (.tmp 12) = .pointer (some ⟨wr.heap.size, 0, none⟩) := (c.off 12 (by kernel_rfl)).trans rfl
            have f12 := (eval_opt a 12).trans e12
            exact gval (.pointer (some ⟨wr.heap.size, 3, none⟩)) (by simp only [execOp, f12, e12]; go_simp) rfl
          · intro a v3 c
            have e87 : a.eval (.tmp 87) = .pointer (some ⟨wr.heap.size, 3, none⟩) := c.dep 14 _ 87 (by kernel_rfl) rfl rfl
            have f87 := (eval_opt a 87).trans e87
            exact gval (.pointer (some ⟨wr.heap.size, 3, none⟩)) (by simp only [execOp, f87, e87]; go_simp) rfl
          · intro a v3 c
            have e88 : a.eval (.tmp 88) = .pointer (some ⟨wr.heap.size, 3, none⟩) := c.dep 15 _ 88 (by kernel_rfl) rfl rfl
            have f88 := (eval_opt a 88).trans e88
            have bb : Below v.heap.size v v3 := Below.trans (Below.drew (Below.refl _ _)) c.below
            have kX := X2.below bb X2.size; have cX := kX.cell
            exact gval (.int .u64 m) (by simp only [execOp, f88, e88]; go_simp) rfl
          · intro a v3 c
            have e10 : a.eval (.tmp 10) = .int .i64 m := (c.off 10 (by kernel_rfl)).trans rfl
            have f10 := (eval_opt a 10).trans e10
            exact gval (.int .i64 m) (by simp only [execOp, f10, e10]; go_simp) rfl
          · intro a v3 c
            have e90 : a.eval (.tmp 90) = .int .i64 m := c.dep 17 _ 90 (by kernel_rfl) rfl rfl
            have f90 := (eval_opt a 90).trans e90
            exact gval (.int .u64 m) (by simp only [execOp, f90, e90]; go_simp) rfl
          · intro a v3 c
            have e89 : a.eval (.tmp 89) = .int .u64 m := c.dep 16 _ 89 (by kernel_rfl) rfl rfl
            have e91 : a.eval (.tmp 91) = .int .u64 m := c.dep 18 _ 91 (by kernel_rfl) rfl rfl
            have f89 := (eval_opt a 89).trans e89
            have f91 := (eval_opt a 91).trans e91
            exact gval (.bool false) (by simp only [execOp, f89, f91, e89, e91]; go_simp) rfl
          · intro a v3 c
            have e86 : a.eval (.tmp 86) = .bool false := c.dep 13 _ 86 (by kernel_rfl) rfl rfl
            have e92 : a.eval (.tmp 92) = .bool false := c.dep 19 _ 92 (by kernel_rfl) rfl rfl
            have f86 := (eval_opt a 86).trans e86
            have f92 := (eval_opt a 92).trans e92
            exact gval (.bool false) (by simp only [execOp, f86, f92, e86, e92]; go_simp) rfl
          · intro a v3 c
            have e93 : a.eval (.tmp 93) = .bool false := c.dep 20 _ 93 (by kernel_rfl) rfl rfl
            have f93 := (eval_opt a 93).trans e93
            exact gval (.bool false) (by simp only [execOp, f93, e93]; go_simp) rfl
          · intro a v3 c
            have e12 : a.eval (.tmp 12) = .pointer (some ⟨wr.heap.size, 0, none⟩) := (c.off 12 (by kernel_rfl)).trans rfl
            have f12 := (eval_opt a 12).trans e12
            exact gval (.pointer (some ⟨wr.heap.size, 3, none⟩)) (by simp only [execOp, f12, e12]; go_simp) rfl
          · intro a v3 c
            have e95 : a.eval (.tmp 95) = .pointer (some ⟨wr.heap.size, 3, none⟩) := c.dep 22 _ 95 (by kernel_rfl) rfl rfl
            have f95 := (eval_opt a 95).trans e95
            exact gval (.pointer (some ⟨wr.heap.size, 4, none⟩)) (by simp only [execOp, f95, e95]; go_simp) rfl
          · intro a v3 c
            have e96 : a.eval (.tmp 96) = .pointer (some ⟨wr.heap.size, 4, none⟩) := c.dep 23 _ 96 (by kernel_rfl) rfl rfl
            have f96 := (eval_opt a 96).trans e96
            have bb : Below v.heap.size v v3 := Below.trans (Below.drew (Below.refl _ _)) c.below
            have kX := X2.below bb X2.size; have cX := kX.cell
            exact gval (.int .i64 f.d.length) (by simp only [execOp, f96, e96]; go_simp) rfl
          · intro a v3 c
            have e0 : a.eval (.tmp 0) = .slice (some ⟨b, off, none⟩) L.length cap := (c.off 0 (by kernel_rfl)).trans rfl
            have f0 := (eval_opt a 0).trans e0
            exact gval (.slice (some ⟨b, off, none⟩) L.length cap) (by simp only [execOp, f0, e0]; go_simp) rfl
          · intro a v3 c
            have e10 : a.eval (.tmp 10) = .int .i64 m := (c.off 10 (by kernel_rfl)).trans rfl
            have f10 := (eval_opt a 10).trans e10
            exact gval (.int .i64 m) (by simp only [execOp, f10, e10]; go_simp) rfl
          · intro a v3 c
            have e98 : a.eval (.tmp 98) = .slice (some ⟨b, off, none⟩) L.length cap := c.dep 25 _ 98 (by kernel_rfl) rfl rfl
            have e99 : a.eval (.tmp 99) = .int .i64 m := c.dep 26 _ 99 (by kernel_rfl) rfl rfl
            have f98 := (eval_opt a 98).trans e98
            have f99 := (eval_opt a 99).trans e99
            exact gval (.pointer (some ⟨b, off + m * 2, none⟩)) (by simp only [execOp, f98, f99, e98, e99]; go_simp) rfl
          · intro a v3 c
            have e100 : a.eval (.tmp 100) = .pointer (some ⟨b, off + m * 2, none⟩) := c.dep 27 _ 100 (by kernel_rfl) rfl rfl
            have f100 := (eval_opt a 100).trans e100
            exact gval (.pointer (some ⟨b, off + m * 2 + 1, none⟩)) (by simp only [execOp, f100, e100]; go_simp) rfl
          · intro a v3 c
            have e101 : a.eval (.tmp 101) = .pointer (some ⟨b, off + m * 2 + 1, none⟩) := c.dep 28 _ 101 (by kernel_rfl) rfl rfl
            have f101 := (eval_opt a 101).trans e101
            have bb : Below v.heap.size v v3 := Below.trans (Below.drew (Below.refl _ _)) c.below
            have y0 := (hL.below (hg2.trans (bb.mono hg2.size)) hbw _ _ hf).2
            exact gval (SV f.d) (by simp only [execOp, f101, e101]; go_simp) rfl
          · intro a v3 c
            have e102 : a.eval (.tmp 102) = SV f.d := c.dep 29 _ 102 (by kernel_rfl) rfl rfl
            have f102 := (eval_opt a 102).trans e102
            exact gval (.int .i64 f.d.length) (by simp only [execOp, f102, e102]; go_simp) rfl
          · intro a v3 c
            have e97 : a.eval (.tmp 97) = .int .i64 f.d.length := c.dep 24 _ 97 (by kernel_rfl) rfl rfl
            have e103 : a.eval (.tmp 103) = .int .i64 f.d.length := c.dep 30 _ 103 (by kernel_rfl) rfl rfl
            have f97 := (eval_opt a 97).trans e97
            have f103 := (eval_opt a 103).trans e103
            exact gval (.bool false) (by simp only [execOp, f97, f103, e97, e103]; go_simp) rfl
          · intro a v3 c
            have e94 : a.eval (.tmp 94) = .bool false := c.dep 21 _ 94 (by kernel_rfl) rfl rfl
            have e104 : a.eval (.tmp 104) = .bool false := c.dep 31 _ 104 (by kernel_rfl) rfl rfl
            have f94 := (eval_opt a 94).trans e94
            have f104 := (eval_opt a 104).trans e104
            exact gval (.bool false) (by simp only [execOp, f94, f104, e94, e104]; go_simp) rfl
        intro a v2 hb hd ho hs hf
        have e105 : a.eval (.tmp 105) = .bool false := hd 32 _ 105 rfl rfl
        have gG3 := gG.trans (hb.mono gG.size)
        have hw3 := hw2.trans (hb.mono hw2.size)
        rw [frame_eta a 116 hs, hf]
        simp only [List.range, List.range.loop, List.map_cons, List.map_nil, e105, ho 0 (by kernel_rfl), ho 1 (by kernel_rfl), ho 2 (by kernel_rfl), ho 3 (by kernel_rfl), ho 4 (by kernel_rfl), ho 5 (by kernel_rfl), ho 6 (by kernel_rfl), ho 7 (by kernel_rfl), ho 8 (by kernel_rfl), ho 9 (by kernel_rfl), ho 10 (by kernel_rfl), ho 11 (by kernel_rfl), ho 12 (by kernel_rfl), ho 13 (by kernel_rfl), ho 14 (by kernel_rfl), ho 15 (by kernel_rfl), ho 16 (by kernel_rfl), ho 17 (by kernel_rfl), ho 18 (by kernel_rfl), ho 19 (by kernel_rfl), ho 20 (by kernel_rfl), ho 21 (by kernel_rfl), ho 22 (by kernel_rfl), ho 23 (by kernel_rfl), ho 24 (by kernel_rfl), ho 25 (by kernel_rfl), ho 26 (by kernel_rfl), ho 27 (by kernel_rfl), ho 28 (by kernel_rfl), ho 29 (by kernel_rfl), ho 30 (by kernel_rfl), ho 31 (by kernel_rfl), ho 32 (by kernel_rfl), ho 33 (by kernel_rfl), ho 34 (by kernel_rfl), ho 35 (by kernel_rfl), ho 36 (by kernel_rfl), ho 37 (by kernel_rfl), ho 38 (by kernel_rfl), ho 39 (by kernel_rfl), ho 40 (by kernel_rfl), ho 41 (by kernel_rfl), ho 42 (by kernel_rfl), ho 43 (by kernel_rfl), ho 44 (by kernel_rfl), ho 45 (by kernel_rfl), ho 46 (by kernel_rfl), ho 47 (by kernel_rfl), ho 48 (by kernel_rfl), ho 49 (by kernel_rfl), ho 50 (by kernel_rfl), ho 51 (by kernel_rfl), ho 52 (by kernel_rfl), ho 53 (by kernel_rfl), ho 54 (by kernel_rfl), ho 55 (by kernel_rfl), ho 56 (by kernel_rfl), ho 57 (by kernel_rfl), ho 58 (by kernel_rfl), ho 59 (by kernel_rfl), ho 60 (by kernel_rfl), ho 61 (by kernel_rfl), ho 62 (by kernel_rfl), ho 63 (by kernel_rfl), ho 64 (by kernel_rfl), ho 65 (by kernel_rfl), ho 66 (by kernel_rfl), ho 67 (by kernel_rfl), ho 68 (by kernel_rfl), ho 69 (by kernel_rfl), ho 70 (by kernel_rfl), ho 71 (by kernel_rfl), ho 72 (by kernel_rfl), ho 106 (by kernel_rfl), ho 107 (by kernel_rfl), ho 108 (by kernel_rfl), ho 109 (by kernel_rfl), ho 110 (by kernel_rfl), ho 111 (by kernel_rfl), ho 112 (by kernel_rfl), ho 113 (by kernel_rfl), ho 114 (by kernel_rfl), ho 115 (by kernel_rfl)]
        clear hd ho hf hs hb e105
        generalize a.eval (.tmp 73) = u73
        generalize a.eval (.tmp 74) = u74
        generalize a.eval (.tmp 75) = u75
        generalize a.eval (.tmp 76) = u76
        generalize a.eval (.tmp 77) = u77
        generalize a.eval (.tmp 78) = u78
        generalize a.eval (.tmp 79) = u79
        generalize a.eval (.tmp 80) = u80
        generalize a.eval (.tmp 81) = u81
        generalize a.eval (.tmp 82) = u82
        generalize a.eval (.tmp 83) = u83
        generalize a.eval (.tmp 84) = u84
        generalize a.eval (.tmp 85) = u85
        generalize a.eval (.tmp 86) = u86
        generalize a.eval (.tmp 87) = u87
        generalize a.eval (.tmp 88) = u88
        generalize a.eval (.tmp 89) = u89
        generalize a.eval (.tmp 90) = u90
        generalize a.eval (.tmp 91) = u91
        generalize a.eval (.tmp 92) = u92
        generalize a.eval (.tmp 93) = u93
        generalize a.eval (.tmp 94) = u94
        generalize a.eval (.tmp 95) = u95
        generalize a.eval (.tmp 96) = u96
        generalize a.eval (.tmp 97) = u97
        generalize a.eval (.tmp 98) = u98
        generalize a.eval (.tmp 99) = u99
        generalize a.eval (.tmp 100) = u100
        generalize a.eval (.tmp 101) = u101
        generalize a.eval (.tmp 102) = u102
        generalize a.eval (.tmp 103) = u103
        generalize a.eval (.tmp 104) = u104
        clear a
        go_simp
        go_wp2
        go_roundw
        case rel => exact ⟨k + 1, m + 1, f.t, by omega, by omega, by omega, by go_num, by go_num, rfl, hwr.trans (hw3.mono hwr.size), hide hO1, hide hN1⟩
        case measure => simp [intOf]; omega
    · obtain rfl : k = O.length := by omega
      rw [List.drop_length] at h1'
      have hml : m = L.length := by
        rcases Nat.lt_or_ge m L.length with h | h
        · obtain ⟨f, hf⟩ : ∃ f, L[m]? = some f := ⟨_, List.getElem?_eq_getElem h⟩
          rw [drop_next hf] at h1'
          unfold opsL at h1'
          have := congrArg List.length h1'
          simp at this
        · omega
      subst hml
      clear h1' h2'
      go_wp2_with fail
      refine (capOne _).mono ?_
      rintro e w9 ⟨rfl, hb9⟩
      have g9 : Below w.heap.size w w9 := by refine Below.trans ?_ (hb9.mono ?_) <;> (repeat' (first | (with_reducible (first | exact Below.refl _ _ | assumption | refine below_drewN ?_ _ | refine Below.drew ?_ | refine Below.alloc ?_ ?_ _ | refine Below.setCell ?_ ?_ _)) | go_size))
      have hz9 := hb9.size
      (try simp at hz9)
      clear hb9
      go_wp2
      go_ret
      exact ⟨rfl, by (repeat' (first | (with_reducible (first | exact Below.refl _ _ | assumption | refine below_drewN ?_ _ | refine Below.drew ?_ | refine Below.alloc ?_ ?_ _ | refine Below.setCell ?_ ?_ _)) | go_size))⟩
section
open Go.ChangeShapes Go.WideShapes Go.ChangeAt
set_option maxRecDepth 100000 in
set_option maxHeartbeats 4000000 in
theorem capOps_bad2 (v : Value) (e : Int) (most : Int) (w : World) (he : e ≠ 0) (KE : Hid (∀ v1, Below w.heap.size w v1 → Calls Try.prog 14 #[v] v1 fun x w' => x = .returned (.tuple #[.string ⟨#[]⟩, .int .i64 e]) ∧ Below v1.heap.size v1 w')) :
    Calls Try.prog 21 #[v, .int .i64 most] w fun x w' => x = .returned (.tuple #[.slice none 0 0, .int .i64 e]) ∧ Below w.heap.size w w' := by
  have hxb : (e != 0) = true := bne_iff_ne.2 he
  go_enter Try.func21, Try.ntmps21
  go_wp2_with fail
  refine (KE.out _ (by (repeat' (first | (with_reducible (first | exact Below.refl _ _ | assumption | refine below_drewN ?_ _ | refine Below.drew ?_ | refine Below.alloc ?_ ?_ _ | refine Below.setCell ?_ ?_ _)) | go_size)))).mono ?_
  rintro e w1 ⟨rfl, hb1⟩
  have g1 : Below w.heap.size w w1 := by refine Below.trans ?_ (hb1.mono ?_) <;> (repeat' (first | (with_reducible (first | exact Below.refl _ _ | assumption | refine below_drewN ?_ _ | refine Below.drew ?_ | refine Below.alloc ?_ ?_ _ | refine Below.setCell ?_ ?_ _)) | go_size))
  have hz1 := hb1.size
  (try simp at hz1)
  clear hb1
  go_wp2
  go_ret2
  exact ⟨rfl, by (repeat' (first | (with_reducible (first | exact Below.refl _ _ | assumption | refine below_drewN ?_ _ | refine Below.drew ?_ | refine Below.alloc ?_ ?_ _ | refine Below.setCell ?_ ?_ _)) | go_size))⟩
theorem CaptureOps_walk (w : World) (a : Option Addr) (cap : Nat) (L : List FM) (hF : Frames w a L) (hcap : L.length ≤ cap) (hcm : cap ≤ maxLen) (most : Int) (hmo : -9223372036854775808 ≤ most ∧ most ≤ 9223372036854775807) : Calls Try.prog 5 #[.slice a L.length cap, .int .i64 most] w fun e w' => e = .returned (.bool true) ∧ Below w.heap.size w w' := by
  by_cases hf : 1001 < L.length ∨ fewG L 0 = false
  · exact capOpsLaw_few _ most w (few_false a cap L w hF hcap hf)
  have hn : L.length ≤ 1001 := by omega
  have hft : fewG L 0 = true := by cases h : fewG L 0 with | true => rfl | false => exact absurd (.inr h) hf
  have ok := okay_few hF hft
  have KF := few_true a cap L w hF hcap hn hft
  have KR := ref_frames a cap L w hF hcap (by omega)
  by_cases h1 : 1000 < L.length
  · refine capOpsLaw_bad _ most L 2 w (by decide) KF (hide fun v hv => ?_) KR (wrong_frames2 L h1)
    exact capOps_bad _ 2 most v (by decide) (hide fun v1 => capEnc_2 L a cap v1 h1 (by omega))
  have KE := enc_frames a cap L w hF ok hcap (by omega)
  have KW := wrong_frames L ok (by omega)
  by_cases he : capE L 0 = 0
  · rw [he, if_pos rfl] at KE
    rw [he] at KW
    obtain ⟨b, off, ha, hb, hL⟩ := hF.at
    refine capOpsLaw_ok a b off cap most L _ w ha hb hL ok (by omega) hcap (capE_iff L 0 he) rfl KF (hide fun v hv => ?_) KR KW (hide fun v b u h2 => ?_)
    · obtain ⟨b', off', ha', hb', hL'⟩ := (hF.later hv).at
      have := capOps_ok L a b' off' cap most (capB L flog) _ v ha' hb' hL' ok hmo (by omega) hcap he rfl (hide fun v1 hv1 => KE.out v1 (hv.trans (hv1.mono hv.size)))
      rw [opsG_eq, List.nil_append] at this; exact this
    · obtain ⟨a2, c2, g2, rfl, k2, l2, m2, n2⟩ := own_at h2
      have := rOps46 L a2 g2 0 c2 most _ v l2 m2 n2 ok hmo (by omega) k2 he rfl
      rw [opsG_eq, List.nil_append] at this; exact this
  · rw [if_neg he] at KE
    refine capOpsLaw_bad _ most L _ w he KF (hide fun v hv => ?_) KR KW
    exact capOps_bad2 _ _ most v he (hide fun v1 hv1 => KE.out v1 (hv.trans (hv1.mono hv.size)))
namespace captureOpsDone
theorem own : ownKnob Try.prog.godebug = none := by kernel_rfl
theorem laidOut : laidOutB Try.prog = true := by kernel_rfl
set_option maxRecDepth 100000 in
theorem lifted (os : Os) (started : os.Started) (H : Type) (enc : TypeId × Value → H) :
    ReturnsInHanded {} Try.checked os 5 .any (Rows.captureOpsSpec.pre6 enc Try.prog Try.f5 Rows.captureOpsRow.domain false) (Rows.captureOpsSpec.post enc Try.prog Try.f5 false true false false) := by
  refine returnsInHanded_of_change (C := Try.checked) own started (by kernel_rfl) Try.func5
    (ChangeSpec.witness6 (enc := enc) (C := Try.checked) false ⟨#[], #[.slice none 0 0, .int .i64 0], []⟩ 8 (by kernel_rfl) (by kernel_rfl) (by kernel_rfl) (by kernel_rfl)) ?_
  intro W base args ds gs before hval0 hW hcnd _
  have hval : ∀ (j : Nat) t v, Try.f5.params[j]? = some t → args[j]? = some v → Value.okWide Try.prog W .any base t v := hval0
  have hW' := hW
  obtain ⟨p, q, hA0, hV, rfl, hfz, hnd⟩ := hW
  have hA : DataW.TrodAll enc Try.prog W 0 (fun _ => true) true Try.f5.params.toList args.toList ds p := hA0
  rw [Try.params5] at hA hval
  obtain ⟨v0, vs0, d0, ds0, p0, q0, hargs, rfl, rfl, h0, r0⟩ := trodAll_cons hA
  obtain ⟨v1, vs1, d1, ds1, p1, q1, rfl, rfl, rfl, h1, r1⟩ := trodAll_cons r0
  obtain ⟨rfl, rfl, rfl⟩ := trodAll_nil r1
  obtain rfl : args = #[v0, v1] := by cases args; simp_all
  obtain ⟨rfl, rfl⟩ := trodVars_none hV
  obtain ⟨s0, len0, cap0, rfl⟩ := okWide_slice Try.underlying22 (hval 0 22 v0 rfl rfl)
  have k0 := h0
  have lt0 : ∀ x ∈ p0, x.block < W.heap.size := by obtain ⟨m, hm⟩ := k0; exact DataW.trod_lt m _ _ _ hm
  obtain ⟨L0, hl0, hc0, hm0, hF0⟩ : ∃ L : List FM, L.length = len0 ∧ len0 ≤ cap0 ∧ cap0 ≤ maxLen ∧ Frames W s0 L := by obtain ⟨fuel, hf⟩ := h0; exact open_frames (by simpa [Value.cells] using hf)
  subst hl0
  obtain ⟨a1, rfl, rfl, rfl, wf1⟩ := open_int Try.underlying3 (hval 1 3 v1 rfl rfl) h1
  have b1 := bounds_i64 wf1
  clear hA0 hval0
  refine (CaptureOps_walk W s0 cap0 L0 hF0 hc0 hm0 a1 b1).mono fun e W' ⟨he, bel⟩ => ?_
  subst he
  exact ⟨_, rfl, _, _, _, [], _, [], hW', trodAll_mk1 (shut_bool Try.underlying4 _), (trodAll_cons_mk (Below.trod laidOut (by kernel_rfl) (of_decide_eq_true (by kernel_rfl)) k0 bel lt0) (trodAll_cons_mk (shut_int Try.underlying3 wf1) trodAll_mk0)), rfl, bel.frame _, fun h => by cases h⟩
theorem over : Rows.captureOpsRow.holds Try.pinned (OpenSpec.ofChange Rows.captureOpsSpec) :=
  OpenClaim.holds_of_wide 5 Try.f5 rfl rfl rfl rfl rfl rfl rfl ⟨rfl, rfl, rfl, rfl, rfl⟩ rfl rfl rfl rfl rfl (by kernel_rfl) Try.func5 (by kernel_rfl)
    (of_decide_eq_true (by kernel_rfl)) (by unfold Func.isWrapper; first | (rw [if_pos (by decide +kernel)]; kernel_rfl) | (rw [if_neg (by decide +kernel)]; exact ⟨rfl, rfl⟩))
    (fun os started H enc _ => lifted os started H enc)
end captureOpsDone
theorem CaptureOps_holds : Rows.CaptureOpsSaid := captureOpsDone.over

end
end Go.Proofs.Ytljpiofpfankoaa
