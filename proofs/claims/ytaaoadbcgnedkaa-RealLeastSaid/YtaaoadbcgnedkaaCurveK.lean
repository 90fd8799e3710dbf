/-
  The walks of curve.behind and Ticks, and of the reference's Over and Ticks, at any curve. Conditions: fields in range.
-/
import Derived.Test.YtaaoadbcgnedkaaCurveS
import Derived.Test.YtaaoadbcgnedkaaEq
namespace Go.Proofs.Ytaaoadbcgnedkaa
open Go.RowKit
set_option linter.unusedVariables false
set_option linter.unusedSimpArgs false
theorem up_in {s m : Int} (hs : In128 s) (hm : 1 ≤ m) : 0 ≤ up s m ∧ up s m ≤ s := by
  refine ⟨(up_spec hs.1 hm).2.2, up_le hs.1 hm hs.1 ?_⟩
  have := Int.mul_le_mul_of_nonneg_right hm hs.1
  omega
theorem CeR.big {s m v e : Int} (hs : In128 s) (hm : 0 ≤ m) (h : CeR s m v e) (he : e ≠ 0) : m = 0 ∨ 18446744073709551616 ≤ up s m := by
  rcases h with ⟨h, _⟩ | ⟨h, h1, _⟩ | ⟨_, _, _, h⟩
  · exact .inl h
  · have := up_in hs h
    refine .inr ?_
    unfold hi at h1; unfold In128 at hs; omega
  · exact absurd h he
theorem CeR.ok {s m v : Int} (hs : In128 s) (h : CeR s m v 0) : 1 ≤ m ∧ v = up s m ∧ 0 ≤ v ∧ v ≤ 18446744073709551615 := by
  rcases h with ⟨_, _, h⟩ | ⟨_, _, _, h⟩ | ⟨h, h1, h2, _⟩
  · omega
  · omega
  · have := up_in hs h
    have := lo_rng (up s m)
    refine ⟨h, ?_, by omega, by omega⟩
    rw [h2]; unfold hi at h1; unfold lo; unfold In128 at hs; omega
/-! Numbers held against each other. -/
theorem weq (a b : Int) (c : Bool) (ha : In128 a) (hb : In128 b) (hc : decide (a = b) = c) (v : World) : (binOp .eql 26 (wv a) (wv b)).run Try.prog v = .ok (.bool c) v := by
  have hu : ∀ w, (isAgg 22).run Try.prog w = .ok false w := fun _ => by kernel_rfl
  have h2 : ∀ (w : World) (x y : Int), (Op.equalIn 9999 22 (.int .u64 x) (.int .u64 y)).run Try.prog w = .ok (x == y) w := fun w x y => run_equalIn_int _ _ _ _ _ _ _ Try.underlying22
  have hs : ∀ w, (sizeOf 22).run Try.prog w = .ok 1 w := fun _ => by kernel_rfl
  rw [run_eql_struct, run_equalIn_struct _ 9999 26 _ _ (by kernel_rfl) (by kernel_rfl)]
  have e : (hi a == hi b && lo a == lo b) = c := by
    rw [← hc, Bool.eq_iff_iff]
    simp only [Bool.and_eq_true, beq_iff_eq, decide_eq_true_eq]
    exact hilo_inj ha hb
  subst e
  simp [Program.fieldsOf, Try.underlying26, go_sem, part, hu, hs, h2]
  cases h1 : (hi a == hi b) <;> cases h3 : (lo a == lo b) <;> simp_all
theorem weq0 (a : Int) (c : Bool) (ha : In128 a) (hc : decide (a = 0) = c) (v : World) : (binOp .eql 26 (wv a) (.agg #[.int .u64 0, .int .u64 0])).run Try.prog v = .ok (.bool c) v := by
  rw [wv0]; exact weq a 0 c ha (by unfold In128; omega) hc v
theorem dgs_inj {a b : Int} (ha : In128 a) (hb : In128 b) : (dg0 a = dg0 b ∧ dg1 a = dg1 b ∧ dg2 a = dg2 b ∧ dg3 a = dg3 b) ↔ a = b := by
  constructor
  · intro h; have h1 := dgs ha; have h2 := dgs hb; omega
  · rintro rfl; exact ⟨rfl, rfl, rfl, rfl⟩
theorem neq (a b : Int) (c : Bool) (ha : In128 a) (hb : In128 b) (hc : decide (a = b) = c) (v : World) : (binOp .eql 31 (nv a) (nv b)).run Try.prog v = .ok (.bool c) v := by
  refine eq_arr Try.prog v 31 22 .u64 Try.underlying31 Try.underlying22 (fun _ => by kernel_rfl) (fun _ => by kernel_rfl) _ _ _ _ _ _ _ _ c ?_
  rw [← hc, Bool.eq_iff_iff]
  simp only [Bool.and_eq_true, beq_iff_eq, decide_eq_true_eq]
  exact dgs_inj ha hb
theorem neq0 (a : Int) (c : Bool) (ha : In128 a) (hc : decide (a = 0) = c) (v : World) : (binOp .eql 31 (nv a) (.agg #[.int .u64 0, .int .u64 0, .int .u64 0, .int .u64 0])).run Try.prog v = .ok (.bool c) v := by
  rw [nv0]; exact neq a 0 c ha (by unfold In128; omega) hc v
theorem over_err (s m x v e : Int) (w : World) (hs : In128 s) (hm : 0 ≤ m ∧ m ≤ 18446744073709551615) (hx : 0 ≤ x ∧ x ≤ 9223372036854775808) (hv0 : 0 ≤ v) (h : CeR s m v e) (he : (e != 0) = true) :
    Calls Try.prog 66 #[nv s, .int .u64 m, .int .u64 x] w fun e w' => e = .returned (.int .u64 9223372036854775808) ∧ Below w.heap.size w w' := by
  have H := hide h; clear h
  go_enter Try.func66, Try.ntmps66
  go_wp2_with fail
  refine (rceil_c s m v e _ hs hm H.out).mono ?_
  rintro e w1 ⟨rfl, hb1⟩
  have g1 : Below w.heap.size w w1 := by refine Below.trans ?_ (hb1.mono ?_) <;> (repeat' (first | (with_reducible (first | exact Below.refl _ _ | assumption | refine below_drewN ?_ _ | refine Below.drew ?_ | refine Below.alloc ?_ ?_ _ | refine Below.setCell ?_ ?_ _)) | go_size))
  have hz1 := hb1.size
  (try simp at hz1)
  clear hb1
  go_wp2
  go_ret
  exact ⟨rfl, by (repeat' (first | (with_reducible (first | exact Below.refl _ _ | assumption | refine below_drewN ?_ _ | refine Below.drew ?_ | refine Below.alloc ?_ ?_ _ | refine Below.setCell ?_ ?_ _)) | go_size))⟩
theorem over_big (s m x v e : Int) (w : World) (hs : In128 s) (hm : 0 ≤ m ∧ m ≤ 18446744073709551615) (hx : 0 ≤ x ∧ x ≤ 9223372036854775808) (hv0 : 0 ≤ v) (h : CeR s m v e) (he : (e != 0) = false) (hv : 9223372036854775808 - x ≤ v) :
    Calls Try.prog 66 #[nv s, .int .u64 m, .int .u64 x] w fun e w' => e = .returned (.int .u64 9223372036854775808) ∧ Below w.heap.size w w' := by
  have H := hide h; clear h
  have d1 : decide (9223372036854775808 - x ≤ v) = true := decide_eq_true hv
  go_enter Try.func66, Try.ntmps66
  go_wp2_with fail
  refine (rceil_c s m v e _ hs hm H.out).mono ?_
  rintro e w1 ⟨rfl, hb1⟩
  have g1 : Below w.heap.size w w1 := by refine Below.trans ?_ (hb1.mono ?_) <;> (repeat' (first | (with_reducible (first | exact Below.refl _ _ | assumption | refine below_drewN ?_ _ | refine Below.drew ?_ | refine Below.alloc ?_ ?_ _ | refine Below.setCell ?_ ?_ _)) | go_size))
  have hz1 := hb1.size
  (try simp at hz1)
  clear hb1
  go_wp2
  go_ret
  exact ⟨rfl, by (repeat' (first | (with_reducible (first | exact Below.refl _ _ | assumption | refine below_drewN ?_ _ | refine Below.drew ?_ | refine Below.alloc ?_ ?_ _ | refine Below.setCell ?_ ?_ _)) | go_size))⟩
theorem over_ok (s m x v e : Int) (w : World) (hs : In128 s) (hm : 0 ≤ m ∧ m ≤ 18446744073709551615) (hx : 0 ≤ x ∧ x ≤ 9223372036854775808) (hv0 : 0 ≤ v) (h : CeR s m v e) (he : (e != 0) = false) (hv : v < 9223372036854775808 - x) :
    Calls Try.prog 66 #[nv s, .int .u64 m, .int .u64 x] w fun e w' => e = .returned (.int .u64 (x + v)) ∧ Below w.heap.size w w' := by
  have H := hide h; clear h
  have d1 : decide (9223372036854775808 - x ≤ v) = false := decide_eq_false (by omega)
  go_enter Try.func66, Try.ntmps66
  go_wp2_with fail
  refine (rceil_c s m v e _ hs hm H.out).mono ?_
  rintro e w1 ⟨rfl, hb1⟩
  have g1 : Below w.heap.size w w1 := by refine Below.trans ?_ (hb1.mono ?_) <;> (repeat' (first | (with_reducible (first | exact Below.refl _ _ | assumption | refine below_drewN ?_ _ | refine Below.drew ?_ | refine Below.alloc ?_ ?_ _ | refine Below.setCell ?_ ?_ _)) | go_size))
  have hz1 := hb1.size
  (try simp at hz1)
  clear hb1
  go_wp2
  go_ret
  exact ⟨rfl, by (repeat' (first | (with_reducible (first | exact Below.refl _ _ | assumption | refine below_drewN ?_ _ | refine Below.drew ?_ | refine Below.alloc ?_ ?_ _ | refine Below.setCell ?_ ?_ _)) | go_size))⟩
theorem rOver (s m x o : Int) (w : World) (hs : In128 s) (hm : 0 ≤ m ∧ m ≤ 18446744073709551615) (hx : 0 ≤ x ∧ x ≤ 9223372036854775808) (ho : ov s m x = o) :
    Calls Try.prog 66 #[nv s, .int .u64 m, .int .u64 x] w fun e w' => e = .returned (.int .u64 o) ∧ Below w.heap.size w w' := by
  subst ho
  obtain ⟨v, e, h⟩ := CeR.ex s m hm.1
  by_cases he : e = 0
  · subst he
    have hk := h.ok hs
    by_cases hv : v < 9223372036854775808 - x
    · rw [show ov s m x = x + v by unfold ov; rw [if_neg (by omega)]; omega]
      exact over_ok s m x v 0 w hs hm hx hk.2.2.1 h rfl hv
    · rw [show ov s m x = 9223372036854775808 by unfold ov; rw [if_pos (by omega)]]
      exact over_big s m x v 0 w hs hm hx hk.2.2.1 h rfl (by omega)
  · have hb := h.big hs hm.1 he
    have hv0 : 0 ≤ v := by rcases h with ⟨_, h, _⟩ | ⟨_, _, h, _⟩ | ⟨_, _, _, h⟩ <;> omega
    rw [show ov s m x = 9223372036854775808 by unfold ov; rw [if_pos (by omega)]]
    exact over_err s m x v e w hs hm hx hv0 h (bne_iff_ne.2 he)
end Go.Proofs.Ytaaoadbcgnedkaa
