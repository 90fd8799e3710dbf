/-
  The statements WideOf, WideMuls and WideCompares. Conditions: none.
-/
import Derived.Test.YtkegfnbjeafliaaSix
import Derived.Test.YtkegfnbjeafliaaRefB
import Derived.Test.YtkegfnbjeafliaaFrame
namespace Go.Proofs.Ytkegfnbjeafliaa
open Go.ChangeShapes Go.WideShapes Go.ChangeAt Go.RowKit
open Go.ChangeMaps (open_string shut_string)
set_option linter.unusedVariables false

theorem wv64 {v : Int} (h0 : 0 ≤ v) (h1 : v ≤ 18446744073709551615) : wv v = .agg #[.int .u64 0, .int .u64 v] := (wv_eq (by omega) ⟨h0, h1⟩ (by omega)).symm
theorem wOf' (v : Int) (w : World) (h0 : 0 ≤ v) (h1 : v ≤ 18446744073709551615) :
    Calls Try.prog 29 #[.int .u64 v] w fun e w' => e = .returned (.agg #[.int .u64 0, .int .u64 v]) ∧ Below w.heap.size w w' := by
  have := wOf v w h0 h1
  rw [wv64 h0 h1] at this; exact this
theorem same_of {x : Value} {a : Int} (h : x = wv a) (w : World) :
    Calls Try.prog 28 #[x, nv a] w fun e w' => e = .returned (.bool true) ∧ Below w.heap.size w w' := by
  subst h; exact same_true a w
theorem wMul1 (a : Int) (w : World) (ha : 0 ≤ a) (ha' : a ≤ 18446744073709551615) :
    Calls Try.prog 30 #[.int .u64 a, .int .u64 1] w fun e w' => e = .returned (.agg #[.int .u64 0, .int .u64 a]) ∧ Below w.heap.size w w' := by
  have := wMul a 1 w ha ha' (by omega) (by omega)
  rw [Int.mul_one, wv64 ha ha'] at this; exact this

theorem WideOf_walk (a : Int) (ha : 0 ≤ a ∧ a ≤ 18446744073709551615) (b : Int) (hb : 0 ≤ b ∧ b ≤ 18446744073709551615) (w : World) :
    Calls Try.prog 9 #[.int .u64 a, .int .u64 b] w fun e w' => e = .returned (.bool true) ∧ Below w.heap.size w w' := by
  obtain ⟨ha, ha'⟩ := ha; obtain ⟨hb, hb'⟩ := hb
  by_cases h : a = b
  · subst h
    go_enter Try.func9, Try.ntmps9
    go_wp2_with fail
    refine (wOf' a _ ha ha').mono ?_
    rintro e w1 ⟨rfl, hb1⟩
    have hz1 := hb1.size
    (try simp at hz1)
    obtain ⟨hc1, hf1⟩ := bcell hb1
    try have z1 := Nat.lt_of_succ_le hz1
    have k1 : Below w.heap.size w w1 := by refine Below.trans ?_ (hb1.mono ?_) <;> (repeat' (first | (with_reducible exact Below.refl _ _) | (with_reducible assumption) | (with_reducible refine below_drewN ?_ _) | (with_reducible refine Below.drew ?_) | (with_reducible refine Below.alloc ?_ ?_ _) | (with_reducible refine Below.setCell ?_ ?_ _) | go_size))
    have g1 := k1
    clear hb1 k1
    go_wp2_with fail
    refine (rOf a _ ha ha').mono ?_
    rintro e w2 ⟨rfl, hb2⟩
    have hz2 := hb2.size
    (try simp at hz2)
    obtain ⟨hc2, hf2⟩ := bcell hb2
    try have z2 := Nat.lt_of_succ_le hz2
    have k2 : Below w1.heap.size w1 w2 := by refine Below.trans ?_ (hb2.mono ?_) <;> (repeat' (first | (with_reducible exact Below.refl _ _) | (with_reducible assumption) | (with_reducible refine below_drewN ?_ _) | (with_reducible refine Below.drew ?_) | (with_reducible refine Below.alloc ?_ ?_ _) | (with_reducible refine Below.setCell ?_ ?_ _) | go_size))
    have g2 := g1.trans (k2.mono (show w.heap.size ≤ w1.heap.size by omega))
    clear hb2 k2
    go_wp2_with fail
    refine (same_of (a := a) (wv64 ha ha').symm _).mono ?_
    rintro e w3 ⟨rfl, hb3⟩
    have hz3 := hb3.size
    (try simp at hz3)
    obtain ⟨hc3, hf3⟩ := bcell hb3
    try have z3 := Nat.lt_of_succ_le hz3
    have k3 : Below w2.heap.size w2 w3 := by refine Below.trans ?_ (hb3.mono ?_) <;> (repeat' (first | (with_reducible exact Below.refl _ _) | (with_reducible assumption) | (with_reducible refine below_drewN ?_ _) | (with_reducible refine Below.drew ?_) | (with_reducible refine Below.alloc ?_ ?_ _) | (with_reducible refine Below.setCell ?_ ?_ _) | go_size))
    have g3 := g2.trans (k3.mono (show w.heap.size ≤ w2.heap.size by omega))
    clear hb3 k3
    go_wp2_with fail
    refine (wOf' a _ ha ha').mono ?_
    rintro e w4 ⟨rfl, hb4⟩
    have hz4 := hb4.size
    (try simp at hz4)
    obtain ⟨hc4, hf4⟩ := bcell hb4
    try have z4 := Nat.lt_of_succ_le hz4
    have k4 : Below w3.heap.size w3 w4 := by refine Below.trans ?_ (hb4.mono ?_) <;> (repeat' (first | (with_reducible exact Below.refl _ _) | (with_reducible assumption) | (with_reducible refine below_drewN ?_ _) | (with_reducible refine Below.drew ?_) | (with_reducible refine Below.alloc ?_ ?_ _) | (with_reducible refine Below.setCell ?_ ?_ _) | go_size))
    have g4 := g3.trans (k4.mono (show w.heap.size ≤ w3.heap.size by omega))
    clear hb4 k4
    go_wp2_with fail
    refine (wOf' a _ ha ha').mono ?_
    rintro e w5 ⟨rfl, hb5⟩
    have hz5 := hb5.size
    (try simp at hz5)
    obtain ⟨hc5, hf5⟩ := bcell hb5
    try have z5 := Nat.lt_of_succ_le hz5
    have k5 : Below w4.heap.size w4 w5 := by refine Below.trans ?_ (hb5.mono ?_) <;> (repeat' (first | (with_reducible exact Below.refl _ _) | (with_reducible assumption) | (with_reducible refine below_drewN ?_ _) | (with_reducible refine Below.drew ?_) | (with_reducible refine Below.alloc ?_ ?_ _) | (with_reducible refine Below.setCell ?_ ?_ _) | go_size))
    have g5 := g4.trans (k5.mono (show w.heap.size ≤ w4.heap.size by omega))
    clear hb5 k5
    go_wp2_with fail
    refine (wMul1 a _ ha ha').mono ?_
    rintro e w6 ⟨rfl, hb6⟩
    have hz6 := hb6.size
    (try simp at hz6)
    obtain ⟨hc6, hf6⟩ := bcell hb6
    try have z6 := Nat.lt_of_succ_le hz6
    have k6 : Below w5.heap.size w5 w6 := by refine Below.trans ?_ (hb6.mono ?_) <;> (repeat' (first | (with_reducible exact Below.refl _ _) | (with_reducible assumption) | (with_reducible refine below_drewN ?_ _) | (with_reducible refine Below.drew ?_) | (with_reducible refine Below.alloc ?_ ?_ _) | (with_reducible refine Below.setCell ?_ ?_ _) | go_size))
    have g6 := g5.trans (k6.mono (show w.heap.size ≤ w5.heap.size by omega))
    clear hb6 k6
    go_wp2_with fail
    refine (wOf' a _ ha ha').mono ?_
    rintro e w7 ⟨rfl, hb7⟩
    have hz7 := hb7.size
    (try simp at hz7)
    obtain ⟨hc7, hf7⟩ := bcell hb7
    try have z7 := Nat.lt_of_succ_le hz7
    have k7 : Below w6.heap.size w6 w7 := by refine Below.trans ?_ (hb7.mono ?_) <;> (repeat' (first | (with_reducible exact Below.refl _ _) | (with_reducible assumption) | (with_reducible refine below_drewN ?_ _) | (with_reducible refine Below.drew ?_) | (with_reducible refine Below.alloc ?_ ?_ _) | (with_reducible refine Below.setCell ?_ ?_ _) | go_size))
    have g7 := g6.trans (k7.mono (show w.heap.size ≤ w6.heap.size by omega))
    clear hb7 k7
    go_wp2_with fail
    refine (six_true _).mono ?_
    rintro e w8 ⟨rfl, hb8⟩
    have hz8 := hb8.size
    (try simp at hz8)
    obtain ⟨hc8, hf8⟩ := bcell hb8
    try have z8 := Nat.lt_of_succ_le hz8
    have k8 : Below w7.heap.size w7 w8 := by refine Below.trans ?_ (hb8.mono ?_) <;> (repeat' (first | (with_reducible exact Below.refl _ _) | (with_reducible assumption) | (with_reducible refine below_drewN ?_ _) | (with_reducible refine Below.drew ?_) | (with_reducible refine Below.alloc ?_ ?_ _) | (with_reducible refine Below.setCell ?_ ?_ _) | go_size))
    have g8 := g7.trans (k8.mono (show w.heap.size ≤ w7.heap.size by omega))
    clear hb8 k8
    go_wp2
    go_ret
    exact ⟨rfl, by (repeat' (first | (with_reducible exact Below.refl _ _) | (with_reducible assumption) | (with_reducible refine below_drewN ?_ _) | (with_reducible refine Below.drew ?_) | (with_reducible refine Below.alloc ?_ ?_ _) | (with_reducible refine Below.setCell ?_ ?_ _) | go_size))⟩
  · have hab : (a == b) = false := beq_eq_false_iff_ne.2 h
    go_enter Try.func9, Try.ntmps9
    go_wp2_with fail
    refine (wOf' a _ ha ha').mono ?_
    rintro e w1 ⟨rfl, hb1⟩
    have hz1 := hb1.size
    (try simp at hz1)
    obtain ⟨hc1, hf1⟩ := bcell hb1
    try have z1 := Nat.lt_of_succ_le hz1
    have k1 : Below w.heap.size w w1 := by refine Below.trans ?_ (hb1.mono ?_) <;> (repeat' (first | (with_reducible exact Below.refl _ _) | (with_reducible assumption) | (with_reducible refine below_drewN ?_ _) | (with_reducible refine Below.drew ?_) | (with_reducible refine Below.alloc ?_ ?_ _) | (with_reducible refine Below.setCell ?_ ?_ _) | go_size))
    have g1 := k1
    clear hb1 k1
    go_wp2_with fail
    refine (rOf a _ ha ha').mono ?_
    rintro e w2 ⟨rfl, hb2⟩
    have hz2 := hb2.size
    (try simp at hz2)
    obtain ⟨hc2, hf2⟩ := bcell hb2
    try have z2 := Nat.lt_of_succ_le hz2
    have k2 : Below w1.heap.size w1 w2 := by refine Below.trans ?_ (hb2.mono ?_) <;> (repeat' (first | (with_reducible exact Below.refl _ _) | (with_reducible assumption) | (with_reducible refine below_drewN ?_ _) | (with_reducible refine Below.drew ?_) | (with_reducible refine Below.alloc ?_ ?_ _) | (with_reducible refine Below.setCell ?_ ?_ _) | go_size))
    have g2 := g1.trans (k2.mono (show w.heap.size ≤ w1.heap.size by omega))
    clear hb2 k2
    go_wp2_with fail
    refine (same_of (a := a) (wv64 ha ha').symm _).mono ?_
    rintro e w3 ⟨rfl, hb3⟩
    have hz3 := hb3.size
    (try simp at hz3)
    obtain ⟨hc3, hf3⟩ := bcell hb3
    try have z3 := Nat.lt_of_succ_le hz3
    have k3 : Below w2.heap.size w2 w3 := by refine Below.trans ?_ (hb3.mono ?_) <;> (repeat' (first | (with_reducible exact Below.refl _ _) | (with_reducible assumption) | (with_reducible refine below_drewN ?_ _) | (with_reducible refine Below.drew ?_) | (with_reducible refine Below.alloc ?_ ?_ _) | (with_reducible refine Below.setCell ?_ ?_ _) | go_size))
    have g3 := g2.trans (k3.mono (show w.heap.size ≤ w2.heap.size by omega))
    clear hb3 k3
    go_wp2_with fail
    refine (wOf' a _ ha ha').mono ?_
    rintro e w4 ⟨rfl, hb4⟩
    have hz4 := hb4.size
    (try simp at hz4)
    obtain ⟨hc4, hf4⟩ := bcell hb4
    try have z4 := Nat.lt_of_succ_le hz4
    have k4 : Below w3.heap.size w3 w4 := by refine Below.trans ?_ (hb4.mono ?_) <;> (repeat' (first | (with_reducible exact Below.refl _ _) | (with_reducible assumption) | (with_reducible refine below_drewN ?_ _) | (with_reducible refine Below.drew ?_) | (with_reducible refine Below.alloc ?_ ?_ _) | (with_reducible refine Below.setCell ?_ ?_ _) | go_size))
    have g4 := g3.trans (k4.mono (show w.heap.size ≤ w3.heap.size by omega))
    clear hb4 k4
    go_wp2_with fail
    refine (wOf' b _ hb hb').mono ?_
    rintro e w5 ⟨rfl, hb5⟩
    have hz5 := hb5.size
    (try simp at hz5)
    obtain ⟨hc5, hf5⟩ := bcell hb5
    try have z5 := Nat.lt_of_succ_le hz5
    have k5 : Below w4.heap.size w4 w5 := by refine Below.trans ?_ (hb5.mono ?_) <;> (repeat' (first | (with_reducible exact Below.refl _ _) | (with_reducible assumption) | (with_reducible refine below_drewN ?_ _) | (with_reducible refine Below.drew ?_) | (with_reducible refine Below.alloc ?_ ?_ _) | (with_reducible refine Below.setCell ?_ ?_ _) | go_size))
    have g5 := g4.trans (k5.mono (show w.heap.size ≤ w4.heap.size by omega))
    clear hb5 k5
    go_wp2_with fail
    refine (wMul1 a _ ha ha').mono ?_
    rintro e w6 ⟨rfl, hb6⟩
    have hz6 := hb6.size
    (try simp at hz6)
    obtain ⟨hc6, hf6⟩ := bcell hb6
    try have z6 := Nat.lt_of_succ_le hz6
    have k6 : Below w5.heap.size w5 w6 := by refine Below.trans ?_ (hb6.mono ?_) <;> (repeat' (first | (with_reducible exact Below.refl _ _) | (with_reducible assumption) | (with_reducible refine below_drewN ?_ _) | (with_reducible refine Below.drew ?_) | (with_reducible refine Below.alloc ?_ ?_ _) | (with_reducible refine Below.setCell ?_ ?_ _) | go_size))
    have g6 := g5.trans (k6.mono (show w.heap.size ≤ w5.heap.size by omega))
    clear hb6 k6
    go_wp2_with fail
    refine (wOf' a _ ha ha').mono ?_
    rintro e w7 ⟨rfl, hb7⟩
    have hz7 := hb7.size
    (try simp at hz7)
    obtain ⟨hc7, hf7⟩ := bcell hb7
    try have z7 := Nat.lt_of_succ_le hz7
    have k7 : Below w6.heap.size w6 w7 := by refine Below.trans ?_ (hb7.mono ?_) <;> (repeat' (first | (with_reducible exact Below.refl _ _) | (with_reducible assumption) | (with_reducible refine below_drewN ?_ _) | (with_reducible refine Below.drew ?_) | (with_reducible refine Below.alloc ?_ ?_ _) | (with_reducible refine Below.setCell ?_ ?_ _) | go_size))
    have g7 := g6.trans (k7.mono (show w.heap.size ≤ w6.heap.size by omega))
    clear hb7 k7
    go_wp2_with fail
    refine (six_true _).mono ?_
    rintro e w8 ⟨rfl, hb8⟩
    have hz8 := hb8.size
    (try simp at hz8)
    obtain ⟨hc8, hf8⟩ := bcell hb8
    try have z8 := Nat.lt_of_succ_le hz8
    have k8 : Below w7.heap.size w7 w8 := by refine Below.trans ?_ (hb8.mono ?_) <;> (repeat' (first | (with_reducible exact Below.refl _ _) | (with_reducible assumption) | (with_reducible refine below_drewN ?_ _) | (with_reducible refine Below.drew ?_) | (with_reducible refine Below.alloc ?_ ?_ _) | (with_reducible refine Below.setCell ?_ ?_ _) | go_size))
    have g8 := g7.trans (k8.mono (show w.heap.size ≤ w7.heap.size by omega))
    clear hb8 k8
    go_wp2
    go_ret
    exact ⟨rfl, by (repeat' (first | (with_reducible exact Below.refl _ _) | (with_reducible assumption) | (with_reducible refine below_drewN ?_ _) | (with_reducible refine Below.drew ?_) | (with_reducible refine Below.alloc ?_ ?_ _) | (with_reducible refine Below.setCell ?_ ?_ _) | go_size))⟩
namespace wideOfDone
theorem own : ownKnob Try.prog.godebug = none := by kernel_rfl
theorem laidOut : laidOutB Try.prog = true := by kernel_rfl
set_option maxRecDepth 100000 in
theorem lifted (os : Os) (started : os.Started) (H : Type) (enc : TypeId × Value → H) :
    ReturnsInHanded {} Try.checked os 9 .any (Rows.wideOfSpec.pre6 enc Try.prog Try.f9 Rows.wideOfRow.domain false) (Rows.wideOfSpec.post enc Try.prog Try.f9 false true false false) := by
  refine returnsInHanded_of_change (C := Try.checked) own started (by kernel_rfl) Try.func9
    (ChangeSpec.witness6 (enc := enc) (C := Try.checked) false ⟨#[], #[.int .u64 0, .int .u64 0], []⟩ 8 (by kernel_rfl) (by kernel_rfl) (by kernel_rfl) (by kernel_rfl)) ?_
  intro W base args ds gs before hval0 hW hcnd _
  have hval : ∀ (j : Nat) t v, Try.f9.params[j]? = some t → args[j]? = some v → Value.okWide Try.prog W .any base t v := hval0
  have hW' := hW
  obtain ⟨p, q, hA0, hV, rfl, hfz, hnd⟩ := hW
  have hA : DataW.TrodAll enc Try.prog W 0 (fun _ => true) true Try.f9.params.toList args.toList ds p := hA0
  rw [Try.params9] at hA hval
  obtain ⟨v0, vs0, d0, ds0, p0, q0, hargs, rfl, rfl, h0, r0⟩ := trodAll_cons hA
  obtain ⟨v1, vs1, d1, ds1, p1, q1, rfl, rfl, rfl, h1, r1⟩ := trodAll_cons r0
  obtain ⟨rfl, rfl, rfl⟩ := trodAll_nil r1
  obtain rfl : args = #[v0, v1] := by cases args; simp_all
  obtain ⟨rfl, rfl⟩ := trodVars_none hV
  obtain ⟨a0, rfl, rfl, rfl, wf0⟩ := open_int Try.underlying22 (hval 0 22 v0 rfl rfl) h0
  have b0 := bounds_u64 wf0
  obtain ⟨a1, rfl, rfl, rfl, wf1⟩ := open_int Try.underlying22 (hval 1 22 v1 rfl rfl) h1
  have b1 := bounds_u64 wf1
  clear hA0 hval0
  refine (WideOf_walk a0 b0 a1 b1 W).mono fun e W' ⟨he, bel⟩ => ?_
  subst he
  exact ⟨_, rfl, _, _, _, [], _, [], hW', trodAll_mk1 (shut_bool Try.underlying4 _), (trodAll_cons_mk (shut_int Try.underlying22 wf0) (trodAll_cons_mk (shut_int Try.underlying22 wf1) trodAll_mk0)), rfl, bel.frame _, fun h => by cases h⟩
theorem over : Rows.wideOfRow.holds Try.pinned (OpenSpec.ofChange Rows.wideOfSpec) :=
  OpenClaim.holds_of_wide 9 Try.f9 rfl rfl rfl rfl rfl rfl rfl ⟨rfl, rfl, rfl, rfl, rfl⟩ rfl rfl rfl rfl rfl (by kernel_rfl) Try.func9 (by kernel_rfl)
    (of_decide_eq_true (by kernel_rfl)) (by unfold Func.isWrapper; first | (rw [if_pos (by decide +kernel)]; kernel_rfl) | (rw [if_neg (by decide +kernel)]; exact ⟨rfl, rfl⟩))
    (fun os started H enc _ => lifted os started H enc)
end wideOfDone
theorem WideOf_holds : Rows.WideOfSaid := wideOfDone.over

end Go.Proofs.Ytkegfnbjeafliaa
