/-
  The statements WideMuls and WideCompares. Conditions: none.
-/
import Derived.Test.YtkegfnbjeafliaaLawW1
namespace Go.Proofs.Ytkegfnbjeafliaa
open Go.ChangeShapes Go.WideShapes Go.ChangeAt Go.RowKit
open Go.ChangeMaps (open_string shut_string)
set_option linter.unusedVariables false

theorem wAdd_of {x y : Value} {a b c : Int} (hx : x = wv a) (hy : y = wv b) (hc : a + b = c) (w : World) (ha : In128 a) (hb : In128 b) (hcc : In128 c) :
    Calls Try.prog 33 #[x, y] w fun e w' => e = .returned (.tuple #[wv c, .bool false]) ∧ Below w.heap.size w w' := by
  subst hx hy hc
  have := wAdd a b w ha hb
  rw [m128_of hcc, decide_eq_false (by unfold In128 at hcc; omega)] at this; exact this
theorem WideMuls_walk (a : Int) (ha : 0 ≤ a ∧ a ≤ 18446744073709551615) (b : Int) (hb : 0 ≤ b ∧ b ≤ 18446744073709551615) (w : World) :
    Calls Try.prog 11 #[.int .u64 a, .int .u64 b] w fun e w' => e = .returned (.bool true) ∧ Below w.heap.size w w' := by
  obtain ⟨ha, ha'⟩ := ha; obtain ⟨hb, hb'⟩ := hb
  have r1 := hi_rng (a * b); have r2 := lo_rng (a * b)
  have hp := mul_rng64 a b ha ha' hb hb'
  have cmul : ∀ v, Calls Try.prog 30 #[.int .u64 b, .int .u64 a] v fun e w' => e = .returned (wv (a * b)) ∧ Below v.heap.size v w' := fun v => by
    have := wMul b a v hb hb' ha ha'
    rw [Int.mul_comm b a] at this; exact this
  have Hmul := hide cmul; clear cmul
  rcases Int.lt_or_le 0 b with h | h
  · have e1 := mul_rng64 a (b - 1) ha ha' (by omega) (by omega)
    have e2 : a * (b - 1) + a = a * b := by rw [Int.mul_sub, Int.mul_one]; omega
    have e2' := hide e2; clear e2
    go_enter Try.func11, Try.ntmps11
    go_wp2_with fail
    refine (wMul a b _ ha ha' hb hb').mono ?_
    rintro e w1 ⟨rfl, hb1⟩
    have hz1 := hb1.size
    (try simp at hz1)
    obtain ⟨hc1, hf1⟩ := bcell hb1
    try have z1 := Nat.lt_of_succ_le hz1
    have k1 : Below w.heap.size w w1 := by refine Below.trans ?_ (hb1.mono ?_) <;> (repeat' (first | (with_reducible exact Below.refl _ _) | (with_reducible assumption) | (with_reducible refine below_drewN ?_ _) | (with_reducible refine Below.drew ?_) | (with_reducible refine Below.alloc ?_ ?_ _) | (with_reducible refine Below.setCell ?_ ?_ _) | go_size))
    have g1 := k1
    clear hb1 k1
    go_wp2_with fail
    refine (wMul a (b - 1) _ ha ha' (by omega) (by omega)).mono ?_
    rintro e w2 ⟨rfl, hb2⟩
    have hz2 := hb2.size
    (try simp at hz2)
    obtain ⟨hc2, hf2⟩ := bcell hb2
    try have z2 := Nat.lt_of_succ_le hz2
    have k2 : Below w1.heap.size w1 w2 := by refine Below.trans ?_ (hb2.mono ?_) <;> (repeat' (first | (with_reducible exact Below.refl _ _) | (with_reducible assumption) | (with_reducible refine below_drewN ?_ _) | (with_reducible refine Below.drew ?_) | (with_reducible refine Below.alloc ?_ ?_ _) | (with_reducible refine Below.setCell ?_ ?_ _) | go_size))
    have g2 := g1.trans (k2.mono (show w.heap.size ≤ w1.heap.size by omega))
    clear hb2 k2
    go_wp2_with fail
    refine (wOf' a _ ha ha').mono ?_
    rintro e w3 ⟨rfl, hb3⟩
    have hz3 := hb3.size
    (try simp at hz3)
    obtain ⟨hc3, hf3⟩ := bcell hb3
    try have z3 := Nat.lt_of_succ_le hz3
    have k3 : Below w2.heap.size w2 w3 := by refine Below.trans ?_ (hb3.mono ?_) <;> (repeat' (first | (with_reducible exact Below.refl _ _) | (with_reducible assumption) | (with_reducible refine below_drewN ?_ _) | (with_reducible refine Below.drew ?_) | (with_reducible refine Below.alloc ?_ ?_ _) | (with_reducible refine Below.setCell ?_ ?_ _) | go_size))
    have c3_0 := fun o => k3.cell (p := ⟨w1.heap.size, o, none⟩) (show w1.heap.size < w2.heap.size by omega)
    have f3_0 := fun o => k3.frozen (p := ⟨w1.heap.size, o, none⟩) (show w1.heap.size < w2.heap.size by omega)
    have z3_0 : w1.heap.size < w3.heap.size := by omega
    have g3 := g2.trans (k3.mono (show w.heap.size ≤ w2.heap.size by omega))
    clear hb3 k3
    go_wp2_with fail
    refine (wAdd_of (a := a * (b - 1)) (b := a) (c := a * b) rfl (wv64 ha ha').symm e2'.out _ (by unfold In128; omega) (by unfold In128; omega) (by unfold In128; omega)).mono ?_
    rintro e w4 ⟨rfl, hb4⟩
    have hz4 := hb4.size
    (try simp at hz4)
    obtain ⟨hc4, hf4⟩ := bcell hb4
    try have z4 := Nat.lt_of_succ_le hz4
    have k4 : Below w3.heap.size w3 w4 := by refine Below.trans ?_ (hb4.mono ?_) <;> (repeat' (first | (with_reducible exact Below.refl _ _) | (with_reducible assumption) | (with_reducible refine below_drewN ?_ _) | (with_reducible refine Below.drew ?_) | (with_reducible refine Below.alloc ?_ ?_ _) | (with_reducible refine Below.setCell ?_ ?_ _) | go_size))
    have c4_0 := fun o => k4.cell (p := ⟨w1.heap.size, o, none⟩) (show w1.heap.size < w3.heap.size by omega)
    have f4_0 := fun o => k4.frozen (p := ⟨w1.heap.size, o, none⟩) (show w1.heap.size < w3.heap.size by omega)
    have z4_0 : w1.heap.size < w4.heap.size := by omega
    have g4 := g3.trans (k4.mono (show w.heap.size ≤ w3.heap.size by omega))
    clear hb4 k4
    go_wp2_with fail
    go_region_held3 (fun v => (v.cell? ⟨w1.heap.size, 0, none⟩ = some (.int .u64 (hi (a * b))) ∧ v.cell? ⟨w1.heap.size, 1, none⟩ = some (.int .u64 (lo (a * b)))) ∧ w1.heap.size < v.heap.size ∧ Below w.heap.size w v)
      (first
        | (refine ⟨⟨?_, ?_⟩, ?_, ?_⟩ <;> first | (with_reducible assumption) | (refine Below.drew ?_; (repeat' (first | (with_reducible exact Below.refl _ _) | (with_reducible assumption) | (with_reducible refine below_drewN ?_ _) | (with_reducible refine Below.drew ?_) | (with_reducible refine Below.alloc ?_ ?_ _) | (with_reducible refine Below.setCell ?_ ?_ _) | go_size)); done) | ((repeat' (first | (with_reducible exact Below.refl _ _) | (with_reducible assumption) | (with_reducible refine below_drewN ?_ _) | (with_reducible refine Below.drew ?_) | (with_reducible refine Below.alloc ?_ ?_ _) | (with_reducible refine Below.setCell ?_ ?_ _) | go_size)); done) | omega | (go_simp; done) | (simp; done)))
      (first
        | (go_at_call 15; refine (rMul a b _ ha ha' hb hb').mono ?_; rintro e w' ⟨rfl, hb'⟩; have hbx : Below w.heap.size w w' := (by refine Below.trans ?_ (Below.mono hb' ?_) <;> (repeat' (first | (with_reducible exact Below.refl _ _) | (with_reducible assumption) | (with_reducible refine below_drewN ?_ _) | (with_reducible refine Below.drew ?_) | (with_reducible refine Below.alloc ?_ ?_ _) | (with_reducible refine Below.setCell ?_ ?_ _) | go_size))); have hbs := hb'.size; (try simp at hbs); have hbz : w1.heap.size < w'.heap.size := (by omega); have hq0 : w'.cell? ⟨w1.heap.size, 0, none⟩ = some (.int .u64 (hi (a * b))) := ((hb'.cell (by first | (simp; done) | omega | (simp; omega))).trans (by first | assumption | (go_simp; done))); have hq1 : w'.cell? ⟨w1.heap.size, 1, none⟩ = some (.int .u64 (lo (a * b))) := ((hb'.cell (by first | (simp; done) | omega | (simp; omega))).trans (by first | assumption | (go_simp; done))); clear hb')
        | (go_at_call 28; refine (same_true (a * b) _).mono ?_; rintro e w' ⟨rfl, hb'⟩; have hbx : Below w.heap.size w w' := (by refine Below.trans ?_ (Below.mono hb' ?_) <;> (repeat' (first | (with_reducible exact Below.refl _ _) | (with_reducible assumption) | (with_reducible refine below_drewN ?_ _) | (with_reducible refine Below.drew ?_) | (with_reducible refine Below.alloc ?_ ?_ _) | (with_reducible refine Below.setCell ?_ ?_ _) | go_size))); have hbs := hb'.size; (try simp at hbs); have hbz : w1.heap.size < w'.heap.size := (by omega); have hq0 : w'.cell? ⟨w1.heap.size, 0, none⟩ = some (.int .u64 (hi (a * b))) := ((hb'.cell (by first | (simp; done) | omega | (simp; omega))).trans (by first | assumption | (go_simp; done))); have hq1 : w'.cell? ⟨w1.heap.size, 1, none⟩ = some (.int .u64 (lo (a * b))) := ((hb'.cell (by first | (simp; done) | omega | (simp; omega))).trans (by first | assumption | (go_simp; done))); clear hb')
        | (go_at_call 30; refine (Hmul.out _).mono ?_; rintro e w' ⟨rfl, hb'⟩; have hbx : Below w.heap.size w w' := (by refine Below.trans ?_ (Below.mono hb' ?_) <;> (repeat' (first | (with_reducible exact Below.refl _ _) | (with_reducible assumption) | (with_reducible refine below_drewN ?_ _) | (with_reducible refine Below.drew ?_) | (with_reducible refine Below.alloc ?_ ?_ _) | (with_reducible refine Below.setCell ?_ ?_ _) | go_size))); have hbs := hb'.size; (try simp at hbs); have hbz : w1.heap.size < w'.heap.size := (by omega); have hq0 : w'.cell? ⟨w1.heap.size, 0, none⟩ = some (.int .u64 (hi (a * b))) := ((hb'.cell (by first | (simp; done) | omega | (simp; omega))).trans (by first | assumption | (go_simp; done))); have hq1 : w'.cell? ⟨w1.heap.size, 1, none⟩ = some (.int .u64 (lo (a * b))) := ((hb'.cell (by first | (simp; done) | omega | (simp; omega))).trans (by first | assumption | (go_simp; done))); clear hb')
        | (go_at_call 27; refine (six_true _).mono ?_; rintro e w' ⟨rfl, hb'⟩; have hbx : Below w.heap.size w w' := (by refine Below.trans ?_ (Below.mono hb' ?_) <;> (repeat' (first | (with_reducible exact Below.refl _ _) | (with_reducible assumption) | (with_reducible refine below_drewN ?_ _) | (with_reducible refine Below.drew ?_) | (with_reducible refine Below.alloc ?_ ?_ _) | (with_reducible refine Below.setCell ?_ ?_ _) | go_size))); have hbs := hb'.size; (try simp at hbs); have hbz : w1.heap.size < w'.heap.size := (by omega); have hq0 : w'.cell? ⟨w1.heap.size, 0, none⟩ = some (.int .u64 (hi (a * b))) := ((hb'.cell (by first | (simp; done) | omega | (simp; omega))).trans (by first | assumption | (go_simp; done))); have hq1 : w'.cell? ⟨w1.heap.size, 1, none⟩ = some (.int .u64 (lo (a * b))) := ((hb'.cell (by first | (simp; done) | omega | (simp; omega))).trans (by first | assumption | (go_simp; done))); clear hb'))
    go_wp2
    go_ret
    exact ⟨rfl, by (repeat' (first | (with_reducible exact Below.refl _ _) | (with_reducible assumption) | (with_reducible refine below_drewN ?_ _) | (with_reducible refine Below.drew ?_) | (with_reducible refine Below.alloc ?_ ?_ _) | (with_reducible refine Below.setCell ?_ ?_ _) | go_size))⟩
  · go_enter Try.func11, Try.ntmps11
    go_wp2_with fail
    refine (wMul a b _ ha ha' hb hb').mono ?_
    rintro e w1 ⟨rfl, hb1⟩
    have hz1 := hb1.size
    (try simp at hz1)
    obtain ⟨hc1, hf1⟩ := bcell hb1
    try have z1 := Nat.lt_of_succ_le hz1
    have k1 : Below w.heap.size w w1 := by refine Below.trans ?_ (hb1.mono ?_) <;> (repeat' (first | (with_reducible exact Below.refl _ _) | (with_reducible assumption) | (with_reducible refine below_drewN ?_ _) | (with_reducible refine Below.drew ?_) | (with_reducible refine Below.alloc ?_ ?_ _) | (with_reducible refine Below.setCell ?_ ?_ _) | go_size))
    have g1 := k1
    clear hb1 k1
    go_wp2_with fail
    go_region_held3 (fun v => (v.cell? ⟨w1.heap.size, 0, none⟩ = some (.int .u64 (hi (a * b))) ∧ v.cell? ⟨w1.heap.size, 1, none⟩ = some (.int .u64 (lo (a * b)))) ∧ w1.heap.size < v.heap.size ∧ Below w.heap.size w v)
      (first
        | (refine ⟨⟨?_, ?_⟩, ?_, ?_⟩ <;> first | (with_reducible assumption) | (refine Below.drew ?_; (repeat' (first | (with_reducible exact Below.refl _ _) | (with_reducible assumption) | (with_reducible refine below_drewN ?_ _) | (with_reducible refine Below.drew ?_) | (with_reducible refine Below.alloc ?_ ?_ _) | (with_reducible refine Below.setCell ?_ ?_ _) | go_size)); done) | ((repeat' (first | (with_reducible exact Below.refl _ _) | (with_reducible assumption) | (with_reducible refine below_drewN ?_ _) | (with_reducible refine Below.drew ?_) | (with_reducible refine Below.alloc ?_ ?_ _) | (with_reducible refine Below.setCell ?_ ?_ _) | go_size)); done) | omega | (go_simp; done) | (simp; done)))
      (first
        | (go_at_call 15; refine (rMul a b _ ha ha' hb hb').mono ?_; rintro e w' ⟨rfl, hb'⟩; have hbx : Below w.heap.size w w' := (by refine Below.trans ?_ (Below.mono hb' ?_) <;> (repeat' (first | (with_reducible exact Below.refl _ _) | (with_reducible assumption) | (with_reducible refine below_drewN ?_ _) | (with_reducible refine Below.drew ?_) | (with_reducible refine Below.alloc ?_ ?_ _) | (with_reducible refine Below.setCell ?_ ?_ _) | go_size))); have hbs := hb'.size; (try simp at hbs); have hbz : w1.heap.size < w'.heap.size := (by omega); have hq0 : w'.cell? ⟨w1.heap.size, 0, none⟩ = some (.int .u64 (hi (a * b))) := ((hb'.cell (by first | (simp; done) | omega | (simp; omega))).trans (by first | assumption | (go_simp; done))); have hq1 : w'.cell? ⟨w1.heap.size, 1, none⟩ = some (.int .u64 (lo (a * b))) := ((hb'.cell (by first | (simp; done) | omega | (simp; omega))).trans (by first | assumption | (go_simp; done))); clear hb')
        | (go_at_call 28; refine (same_true (a * b) _).mono ?_; rintro e w' ⟨rfl, hb'⟩; have hbx : Below w.heap.size w w' := (by refine Below.trans ?_ (Below.mono hb' ?_) <;> (repeat' (first | (with_reducible exact Below.refl _ _) | (with_reducible assumption) | (with_reducible refine below_drewN ?_ _) | (with_reducible refine Below.drew ?_) | (with_reducible refine Below.alloc ?_ ?_ _) | (with_reducible refine Below.setCell ?_ ?_ _) | go_size))); have hbs := hb'.size; (try simp at hbs); have hbz : w1.heap.size < w'.heap.size := (by omega); have hq0 : w'.cell? ⟨w1.heap.size, 0, none⟩ = some (.int .u64 (hi (a * b))) := ((hb'.cell (by first | (simp; done) | omega | (simp; omega))).trans (by first | assumption | (go_simp; done))); have hq1 : w'.cell? ⟨w1.heap.size, 1, none⟩ = some (.int .u64 (lo (a * b))) := ((hb'.cell (by first | (simp; done) | omega | (simp; omega))).trans (by first | assumption | (go_simp; done))); clear hb')
        | (go_at_call 30; refine (Hmul.out _).mono ?_; rintro e w' ⟨rfl, hb'⟩; have hbx : Below w.heap.size w w' := (by refine Below.trans ?_ (Below.mono hb' ?_) <;> (repeat' (first | (with_reducible exact Below.refl _ _) | (with_reducible assumption) | (with_reducible refine below_drewN ?_ _) | (with_reducible refine Below.drew ?_) | (with_reducible refine Below.alloc ?_ ?_ _) | (with_reducible refine Below.setCell ?_ ?_ _) | go_size))); have hbs := hb'.size; (try simp at hbs); have hbz : w1.heap.size < w'.heap.size := (by omega); have hq0 : w'.cell? ⟨w1.heap.size, 0, none⟩ = some (.int .u64 (hi (a * b))) := ((hb'.cell (by first | (simp; done) | omega | (simp; omega))).trans (by first | assumption | (go_simp; done))); have hq1 : w'.cell? ⟨w1.heap.size, 1, none⟩ = some (.int .u64 (lo (a * b))) := ((hb'.cell (by first | (simp; done) | omega | (simp; omega))).trans (by first | assumption | (go_simp; done))); clear hb')
        | (go_at_call 27; refine (six_true _).mono ?_; rintro e w' ⟨rfl, hb'⟩; have hbx : Below w.heap.size w w' := (by refine Below.trans ?_ (Below.mono hb' ?_) <;> (repeat' (first | (with_reducible exact Below.refl _ _) | (with_reducible assumption) | (with_reducible refine below_drewN ?_ _) | (with_reducible refine Below.drew ?_) | (with_reducible refine Below.alloc ?_ ?_ _) | (with_reducible refine Below.setCell ?_ ?_ _) | go_size))); have hbs := hb'.size; (try simp at hbs); have hbz : w1.heap.size < w'.heap.size := (by omega); have hq0 : w'.cell? ⟨w1.heap.size, 0, none⟩ = some (.int .u64 (hi (a * b))) := ((hb'.cell (by first | (simp; done) | omega | (simp; omega))).trans (by first | assumption | (go_simp; done))); have hq1 : w'.cell? ⟨w1.heap.size, 1, none⟩ = some (.int .u64 (lo (a * b))) := ((hb'.cell (by first | (simp; done) | omega | (simp; omega))).trans (by first | assumption | (go_simp; done))); clear hb'))
    go_wp2
    go_ret
    exact ⟨rfl, by (repeat' (first | (with_reducible exact Below.refl _ _) | (with_reducible assumption) | (with_reducible refine below_drewN ?_ _) | (with_reducible refine Below.drew ?_) | (with_reducible refine Below.alloc ?_ ?_ _) | (with_reducible refine Below.setCell ?_ ?_ _) | go_size))⟩
namespace wideMulsDone
theorem own : ownKnob Try.prog.godebug = none := by kernel_rfl
theorem laidOut : laidOutB Try.prog = true := by kernel_rfl
set_option maxRecDepth 100000 in
theorem lifted (os : Os) (started : os.Started) (H : Type) (enc : TypeId × Value → H) :
    ReturnsInHanded {} Try.checked os 11 .any (Rows.wideMulsSpec.pre6 enc Try.prog Try.f11 Rows.wideMulsRow.domain false) (Rows.wideMulsSpec.post enc Try.prog Try.f11 false true false false) := by
  refine returnsInHanded_of_change (C := Try.checked) own started (by kernel_rfl) Try.func11
    (ChangeSpec.witness6 (enc := enc) (C := Try.checked) false ⟨#[], #[.int .u64 0, .int .u64 0], []⟩ 8 (by kernel_rfl) (by kernel_rfl) (by kernel_rfl) (by kernel_rfl)) ?_
  intro W base args ds gs before hval0 hW hcnd _
  have hval : ∀ (j : Nat) t v, Try.f11.params[j]? = some t → args[j]? = some v → Value.okWide Try.prog W .any base t v := hval0
  have hW' := hW
  obtain ⟨p, q, hA0, hV, rfl, hfz, hnd⟩ := hW
  have hA : DataW.TrodAll enc Try.prog W 0 (fun _ => true) true Try.f11.params.toList args.toList ds p := hA0
  rw [Try.params11] at hA hval
  obtain ⟨v0, vs0, d0, ds0, p0, q0, hargs, rfl, rfl, h0, r0⟩ := trodAll_cons hA
  obtain ⟨v1, vs1, d1, ds1, p1, q1, rfl, rfl, rfl, h1, r1⟩ := trodAll_cons r0
  obtain ⟨rfl, rfl, rfl⟩ := trodAll_nil r1
  obtain rfl : args = #[v0, v1] := by cases args; simp_all
  obtain ⟨rfl, rfl⟩ := trodVars_none hV
  obtain ⟨a0, rfl, rfl, rfl, wf0⟩ := open_int Try.underlying22 (hval 0 22 v0 rfl rfl) h0
  have b0 := bounds_u64 wf0
  obtain ⟨a1, rfl, rfl, rfl, wf1⟩ := open_int Try.underlying22 (hval 1 22 v1 rfl rfl) h1
  have b1 := bounds_u64 wf1
  clear hA0 hval0
  refine (WideMuls_walk a0 b0 a1 b1 W).mono fun e W' ⟨he, bel⟩ => ?_
  subst he
  exact ⟨_, rfl, _, _, _, [], _, [], hW', trodAll_mk1 (shut_bool Try.underlying4 _), (trodAll_cons_mk (shut_int Try.underlying22 wf0) (trodAll_cons_mk (shut_int Try.underlying22 wf1) trodAll_mk0)), rfl, bel.frame _, fun h => by cases h⟩
theorem over : Rows.wideMulsRow.holds Try.pinned (OpenSpec.ofChange Rows.wideMulsSpec) :=
  OpenClaim.holds_of_wide 11 Try.f11 rfl rfl rfl rfl rfl rfl rfl ⟨rfl, rfl, rfl, rfl, rfl⟩ rfl rfl rfl rfl rfl (by kernel_rfl) Try.func11 (by kernel_rfl)
    (of_decide_eq_true (by kernel_rfl)) (by unfold Func.isWrapper; first | (rw [if_pos (by decide +kernel)]; kernel_rfl) | (rw [if_neg (by decide +kernel)]; exact ⟨rfl, rfl⟩))
    (fun os started H enc _ => lifted os started H enc)
end wideMulsDone
theorem WideMuls_holds : Rows.WideMulsSaid := wideMulsDone.over

end Go.Proofs.Ytkegfnbjeafliaa
