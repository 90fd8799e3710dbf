/-
  The statements' own words on wide numbers: six, ref, same. Conditions: numbers in range.
-/
import Derived.Test.YtkegfnbjeafliaaText
import Derived.Test.YtkegfnbjeafliaaRef
import Derived.Deep.RegionHeld3
namespace Go.Proofs.Ytkegfnbjeafliaa
open Go.RowKit
set_option linter.unusedVariables false

theorem six_true (w : World) :
    Calls Try.prog 27 #[] w fun e w' => e = .returned (.bool true) ∧ Below w.heap.size w w' := by
  have e0 : Value.agg #[.int .u64 1, .int .u64 0] = wv 18446744073709551616 := wv_eq (by omega) (by omega) (by omega)
  have e1 : wv ((18446744073709551616 : Int) / 10) = Value.agg #[.int .u64 0, .int .u64 1844674407370955161] := (wv_eq (by omega) (by omega) (by omega)).symm
  have e2 : (18446744073709551616 : Int) % 10 = 6 := by omega
  have e3 : wv ((9223372036854775808 : Int) * 6) = Value.agg #[.int .u64 3, .int .u64 0] := (wv_eq (by omega) (by omega) (by omega)).symm
  have e4 : wv (1844674407370955161 : Int) = Value.agg #[.int .u64 0, .int .u64 1844674407370955161] := (wv_eq (by omega) (by omega) (by omega)).symm
  have cdiv : ∀ v, Calls Try.prog 34 #[.agg #[.int .u64 1, .int .u64 0], .int .u64 10] v fun e w' => e = .returned (.tuple #[.agg #[.int .u64 0, .int .u64 1844674407370955161], .int .u64 6, .int .i64 0]) ∧ Below v.heap.size v w' := by
    intro v
    have := wDiv 18446744073709551616 10 v (by unfold In128; omega) (by omega) (by omega)
    rw [e2, e1, ← e0] at this; exact this
  have cmul : ∀ v, Calls Try.prog 30 #[.int .u64 9223372036854775808, .int .u64 6] v fun e w' => e = .returned (.agg #[.int .u64 3, .int .u64 0]) ∧ Below v.heap.size v w' := by
    intro v
    have := wMul 9223372036854775808 6 v (by omega) (by omega) (by omega) (by omega)
    rw [e3] at this; exact this
  have cof : ∀ v, Calls Try.prog 29 #[.int .u64 1844674407370955161] v fun e w' => e = .returned (.agg #[.int .u64 0, .int .u64 1844674407370955161]) ∧ Below v.heap.size v w' := by
    intro v
    have := wOf 1844674407370955161 v (by omega) (by omega)
    rw [e4] at this; exact this
  have ctext : ∀ v, Calls Try.prog 24 #[.agg #[.int .u64 1, .int .u64 0]] v fun e w' => e = .returned (.string ⟨#[49, 56, 52, 52, 54, 55, 52, 52, 48, 55, 51, 55, 48, 57, 53, 53, 49, 54, 49, 54]⟩) ∧ Below v.heap.size v w' := by
    intro v
    have := wText 18446744073709551616 v (by unfold In128; omega)
    rw [← e0, show (dec 18446744073709551616) = [49, 56, 52, 52, 54, 55, 52, 52, 48, 55, 51, 55, 48, 57, 53, 53, 49, 54, 49, 54] by decide +kernel] at this; exact this
  clear e0 e1 e2 e3 e4
  have Hmul := hide cmul; have Hof := hide cof; have Htext := hide ctext; have Hdiv := hide cdiv
  clear cmul cof ctext cdiv
  go_enter Try.func27, Try.ntmps27
  go_wp2_with fail
  refine (Hdiv.out _).mono ?_
  rintro e w1 ⟨rfl, hb1⟩
  have hz1 := hb1.size
  (try simp at hz1)
  obtain ⟨hc1, hf1⟩ := bcell hb1
  try have z1 := Nat.lt_of_succ_le hz1
  have k1 : Below w.heap.size w w1 := by refine Below.trans ?_ (hb1.mono ?_) <;> (repeat' (first | (with_reducible exact Below.refl _ _) | (with_reducible assumption) | (with_reducible refine below_drewN ?_ _) | (with_reducible refine Below.drew ?_) | (with_reducible refine Below.alloc ?_ ?_ _) | (with_reducible refine Below.setCell ?_ ?_ _) | go_size))
  have g1 := k1
  clear hb1 k1
  go_wp2_with fail
  go_region_held3 (fun v => (v.cell? ⟨w1.heap.size, 0, none⟩ = some (.int .u64 0) ∧ v.cell? ⟨w1.heap.size, 1, none⟩ = some (.int .u64 1844674407370955161)) ∧ w1.heap.size < v.heap.size ∧ Below w.heap.size w v)
    (first
      | (refine ⟨⟨?_, ?_⟩, ?_, ?_⟩ <;> first | (with_reducible assumption) | (refine Below.drew ?_; (repeat' (first | (with_reducible exact Below.refl _ _) | (with_reducible assumption) | (with_reducible refine below_drewN ?_ _) | (with_reducible refine Below.drew ?_) | (with_reducible refine Below.alloc ?_ ?_ _) | (with_reducible refine Below.setCell ?_ ?_ _) | go_size)); done) | ((repeat' (first | (with_reducible exact Below.refl _ _) | (with_reducible assumption) | (with_reducible refine below_drewN ?_ _) | (with_reducible refine Below.drew ?_) | (with_reducible refine Below.alloc ?_ ?_ _) | (with_reducible refine Below.setCell ?_ ?_ _) | go_size)); done) | omega | (go_simp; done) | (simp; done)))
    (first
      | (go_at_call 30; refine (Hmul.out _).mono ?_; rintro e w' ⟨rfl, hb'⟩; have hbx : Below w.heap.size w w' := (by refine Below.trans ?_ (Below.mono hb' ?_) <;> (repeat' (first | (with_reducible exact Below.refl _ _) | (with_reducible assumption) | (with_reducible refine below_drewN ?_ _) | (with_reducible refine Below.drew ?_) | (with_reducible refine Below.alloc ?_ ?_ _) | (with_reducible refine Below.setCell ?_ ?_ _) | go_size))); have hbs := hb'.size; (try simp at hbs); have hbz : w1.heap.size < w'.heap.size := (by omega); have hq0 : w'.cell? ⟨w1.heap.size, 0, none⟩ = some (.int .u64 0) := ((hb'.cell (by first | (simp; done) | omega | (simp; omega))).trans (by first | assumption | (go_simp; done))); have hq1 : w'.cell? ⟨w1.heap.size, 1, none⟩ = some (.int .u64 1844674407370955161) := ((hb'.cell (by first | (simp; done) | omega | (simp; omega))).trans (by first | assumption | (go_simp; done))); clear hb')
      | (go_at_call 29; refine (Hof.out _).mono ?_; rintro e w' ⟨rfl, hb'⟩; have hbx : Below w.heap.size w w' := (by refine Below.trans ?_ (Below.mono hb' ?_) <;> (repeat' (first | (with_reducible exact Below.refl _ _) | (with_reducible assumption) | (with_reducible refine below_drewN ?_ _) | (with_reducible refine Below.drew ?_) | (with_reducible refine Below.alloc ?_ ?_ _) | (with_reducible refine Below.setCell ?_ ?_ _) | go_size))); have hbs := hb'.size; (try simp at hbs); have hbz : w1.heap.size < w'.heap.size := (by omega); have hq0 : w'.cell? ⟨w1.heap.size, 0, none⟩ = some (.int .u64 0) := ((hb'.cell (by first | (simp; done) | omega | (simp; omega))).trans (by first | assumption | (go_simp; done))); have hq1 : w'.cell? ⟨w1.heap.size, 1, none⟩ = some (.int .u64 1844674407370955161) := ((hb'.cell (by first | (simp; done) | omega | (simp; omega))).trans (by first | assumption | (go_simp; done))); clear hb')
      | (go_at_call 24; refine (Htext.out _).mono ?_; rintro e w' ⟨rfl, hb'⟩; have hbx : Below w.heap.size w w' := (by refine Below.trans ?_ (Below.mono hb' ?_) <;> (repeat' (first | (with_reducible exact Below.refl _ _) | (with_reducible assumption) | (with_reducible refine below_drewN ?_ _) | (with_reducible refine Below.drew ?_) | (with_reducible refine Below.alloc ?_ ?_ _) | (with_reducible refine Below.setCell ?_ ?_ _) | go_size))); have hbs := hb'.size; (try simp at hbs); have hbz : w1.heap.size < w'.heap.size := (by omega); have hq0 : w'.cell? ⟨w1.heap.size, 0, none⟩ = some (.int .u64 0) := ((hb'.cell (by first | (simp; done) | omega | (simp; omega))).trans (by first | assumption | (go_simp; done))); have hq1 : w'.cell? ⟨w1.heap.size, 1, none⟩ = some (.int .u64 1844674407370955161) := ((hb'.cell (by first | (simp; done) | omega | (simp; omega))).trans (by first | assumption | (go_simp; done))); clear hb'))
  go_wp2
  go_ret
  exact ⟨rfl, by (repeat' (first | (with_reducible exact Below.refl _ _) | (with_reducible assumption) | (with_reducible refine below_drewN ?_ _) | (with_reducible refine Below.drew ?_) | (with_reducible refine Below.alloc ?_ ?_ _) | (with_reducible refine Below.setCell ?_ ?_ _) | go_size))⟩
theorem lref (n : Int) (w : World) (hn : In128 n) :
    Calls Try.prog 26 #[wv n] w fun e w' => e = .returned (nv n) ∧ Below w.heap.size w w' := by
  go_enter Try.func26, Try.ntmps26
  have r1 := hi_rng n; have r2 := lo_rng n
  go_wp2_with fail
  refine (rTwo n _ hn).mono ?_
  rintro e w1 ⟨rfl, hb1⟩
  have hz1 := hb1.size
  (try simp at hz1)
  obtain ⟨hc1, hf1⟩ := bcell hb1
  try have z1 := Nat.lt_of_succ_le hz1
  have k1 : Below w.heap.size w w1 := by refine Below.trans ?_ (hb1.mono ?_) <;> (repeat' (first | (with_reducible exact Below.refl _ _) | (with_reducible assumption) | (with_reducible refine below_drewN ?_ _) | (with_reducible refine Below.drew ?_) | (with_reducible refine Below.alloc ?_ ?_ _) | (with_reducible refine Below.setCell ?_ ?_ _) | go_size))
  have g1 := k1
  clear hb1 k1
  go_wp2
  refine bodyPost_ret (v := nv n) (by simp [results, Try.results26, go_sem, hc1]) rfl ⟨rfl, by (repeat' (first | (with_reducible exact Below.refl _ _) | (with_reducible assumption) | (with_reducible refine below_drewN ?_ _) | (with_reducible refine Below.drew ?_) | (with_reducible refine Below.alloc ?_ ?_ _) | (with_reducible refine Below.setCell ?_ ?_ _) | go_size))⟩
theorem same_true (a : Int) (w : World) :
    Calls Try.prog 28 #[wv a, nv a] w fun e w' => e = .returned (.bool true) ∧ Below w.heap.size w w' := by
  go_enter Try.func28, Try.ntmps28
  go_wp2_with fail
  go_region_held3 (fun v => (v.cell? ⟨w.heap.size + 1, 0, none⟩ = some (.int .u64 (dg0 a)) ∧ v.cell? ⟨w.heap.size + 1, 1, none⟩ = some (.int .u64 (dg1 a)) ∧ v.cell? ⟨w.heap.size + 1, 2, none⟩ = some (.int .u64 (dg2 a)) ∧ v.cell? ⟨w.heap.size + 1, 3, none⟩ = some (.int .u64 (dg3 a)) ∧ v.cell? ⟨w.heap.size, 0, none⟩ = some (.int .u64 (hi a)) ∧ v.cell? ⟨w.heap.size, 1, none⟩ = some (.int .u64 (lo a))) ∧ w.heap.size + 1 < v.heap.size ∧ Below w.heap.size w v)
    (first
      | (refine ⟨⟨?_, ?_, ?_, ?_, ?_, ?_⟩, ?_, ?_⟩ <;> first | (with_reducible assumption) | (refine Below.drew ?_; (repeat' (first | (with_reducible exact Below.refl _ _) | (with_reducible assumption) | (with_reducible refine below_drewN ?_ _) | (with_reducible refine Below.drew ?_) | (with_reducible refine Below.alloc ?_ ?_ _) | (with_reducible refine Below.setCell ?_ ?_ _) | go_size)); done) | ((repeat' (first | (with_reducible exact Below.refl _ _) | (with_reducible assumption) | (with_reducible refine below_drewN ?_ _) | (with_reducible refine Below.drew ?_) | (with_reducible refine Below.alloc ?_ ?_ _) | (with_reducible refine Below.setCell ?_ ?_ _) | go_size)); done) | omega | (go_simp; done) | (simp; done)))
    (first
      | (go_at_call 41; refine (rHi a _).mono ?_; rintro e w' ⟨rfl, hb'⟩; have hbx : Below w.heap.size w w' := (by refine Below.trans ?_ (Below.mono hb' ?_) <;> (repeat' (first | (with_reducible exact Below.refl _ _) | (with_reducible assumption) | (with_reducible refine below_drewN ?_ _) | (with_reducible refine Below.drew ?_) | (with_reducible refine Below.alloc ?_ ?_ _) | (with_reducible refine Below.setCell ?_ ?_ _) | go_size))); have hbs := hb'.size; (try simp at hbs); have hbz : w.heap.size + 1 < w'.heap.size := (by omega); have hq0 : w'.cell? ⟨w.heap.size + 1, 0, none⟩ = some (.int .u64 (dg0 a)) := ((hb'.cell (by first | (simp; done) | omega | (simp; omega))).trans (by first | assumption | (go_simp; done))); have hq1 : w'.cell? ⟨w.heap.size + 1, 1, none⟩ = some (.int .u64 (dg1 a)) := ((hb'.cell (by first | (simp; done) | omega | (simp; omega))).trans (by first | assumption | (go_simp; done))); have hq2 : w'.cell? ⟨w.heap.size + 1, 2, none⟩ = some (.int .u64 (dg2 a)) := ((hb'.cell (by first | (simp; done) | omega | (simp; omega))).trans (by first | assumption | (go_simp; done))); have hq3 : w'.cell? ⟨w.heap.size + 1, 3, none⟩ = some (.int .u64 (dg3 a)) := ((hb'.cell (by first | (simp; done) | omega | (simp; omega))).trans (by first | assumption | (go_simp; done))); have hq4 : w'.cell? ⟨w.heap.size, 0, none⟩ = some (.int .u64 (hi a)) := ((hb'.cell (by first | (simp; done) | omega | (simp; omega))).trans (by first | assumption | (go_simp; done))); have hq5 : w'.cell? ⟨w.heap.size, 1, none⟩ = some (.int .u64 (lo a)) := ((hb'.cell (by first | (simp; done) | omega | (simp; omega))).trans (by first | assumption | (go_simp; done))); clear hb')
      | (go_at_call 38; refine (rLo a _).mono ?_; rintro e w' ⟨rfl, hb'⟩; have hbx : Below w.heap.size w w' := (by refine Below.trans ?_ (Below.mono hb' ?_) <;> (repeat' (first | (with_reducible exact Below.refl _ _) | (with_reducible assumption) | (with_reducible refine below_drewN ?_ _) | (with_reducible refine Below.drew ?_) | (with_reducible refine Below.alloc ?_ ?_ _) | (with_reducible refine Below.setCell ?_ ?_ _) | go_size))); have hbs := hb'.size; (try simp at hbs); have hbz : w.heap.size + 1 < w'.heap.size := (by omega); have hq0 : w'.cell? ⟨w.heap.size + 1, 0, none⟩ = some (.int .u64 (dg0 a)) := ((hb'.cell (by first | (simp; done) | omega | (simp; omega))).trans (by first | assumption | (go_simp; done))); have hq1 : w'.cell? ⟨w.heap.size + 1, 1, none⟩ = some (.int .u64 (dg1 a)) := ((hb'.cell (by first | (simp; done) | omega | (simp; omega))).trans (by first | assumption | (go_simp; done))); have hq2 : w'.cell? ⟨w.heap.size + 1, 2, none⟩ = some (.int .u64 (dg2 a)) := ((hb'.cell (by first | (simp; done) | omega | (simp; omega))).trans (by first | assumption | (go_simp; done))); have hq3 : w'.cell? ⟨w.heap.size + 1, 3, none⟩ = some (.int .u64 (dg3 a)) := ((hb'.cell (by first | (simp; done) | omega | (simp; omega))).trans (by first | assumption | (go_simp; done))); have hq4 : w'.cell? ⟨w.heap.size, 0, none⟩ = some (.int .u64 (hi a)) := ((hb'.cell (by first | (simp; done) | omega | (simp; omega))).trans (by first | assumption | (go_simp; done))); have hq5 : w'.cell? ⟨w.heap.size, 1, none⟩ = some (.int .u64 (lo a)) := ((hb'.cell (by first | (simp; done) | omega | (simp; omega))).trans (by first | assumption | (go_simp; done))); clear hb'))
  go_wp2
  go_ret
  exact ⟨rfl, by (repeat' (first | (with_reducible exact Below.refl _ _) | (with_reducible assumption) | (with_reducible refine below_drewN ?_ _) | (with_reducible refine Below.drew ?_) | (with_reducible refine Below.alloc ?_ ?_ _) | (with_reducible refine Below.setCell ?_ ?_ _) | go_size))⟩
end Go.Proofs.Ytkegfnbjeafliaa
