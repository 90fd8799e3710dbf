/-
  The statement LinesEligible: the deadline run rises by no more than the curve's service, above where the ready run is. Conditions: none.
-/
import Derived.Test.YtaaoadbcgnedkaaLawE5a
import Derived.Test.YtaaoadbcgnedkaaLawE5x
import Derived.Test.YtaaoadbcgnedkaaLawE5y
namespace Go.Proofs.Ytaaoadbcgnedkaa
open Go.ChangeShapes Go.WideShapes Go.ChangeAt Go.RowKit
open Go.Sort
set_option linter.unusedVariables false
set_option linter.unusedSimpArgs false
theorem froms6list2 {α : Type} {l : List α} (h : l.length = 2) : ∃ a0 a1, l = [a0, a1] := by
  match l, h with
  | [a0, a1], _ => exact ⟨a0, a1, rfl⟩
theorem froms6list6 {α : Type} {l : List α} (h : l.length = 6) : ∃ a0 a1 a2 a3 a4 a5, l = [a0, a1, a2, a3, a4, a5] := by
  match l, h with
  | [a0, a1, a2, a3, a4, a5], _ => exact ⟨a0, a1, a2, a3, a4, a5, rfl⟩
theorem cells_froms6 {H : Type} {w : World} {base : Nat} {spare : Nat → Bool} {held : Bool} {enc : TypeId × Value → H} {fuel : Nat} {c0 c1 c2 c3 c4 c5 : Value} {x : DataW H × List MemPlace} (hf : DataW.trod enc Try.prog w base spare held fuel 61 [c0, c1, c2, c3, c4, c5] = some x) :
    ∃ (x0 : Int) (x1 : Int) (x2 : Int) (x3 : Int) (x4 : Int) (x5 : Int), [c0, c1, c2, c3, c4, c5] = [.int .u64 x0, .int .u64 x1, .int .u64 x2, .int .u64 x3, .int .u64 x4, .int .u64 x5] ∧ (0 ≤ x0 ∧ x0 ≤ 18446744073709551615) ∧ (0 ≤ x1 ∧ x1 ≤ 18446744073709551615) ∧ (0 ≤ x2 ∧ x2 ≤ 18446744073709551615) ∧ (0 ≤ x3 ∧ x3 ≤ 18446744073709551615) ∧ (0 ≤ x4 ∧ x4 ≤ 18446744073709551615) ∧ (0 ≤ x5 ∧ x5 ≤ 18446744073709551615) := by
  have k0 : Try.prog.cellsOf 61 = 6 := by kernel_rfl
  have k1 : Try.prog.cellsOf 28 = 3 := by kernel_rfl
  have k2 : Try.prog.cellsOf 22 = 1 := by kernel_rfl
  have k3 : Try.prog.cellsOf 26 = 2 := by kernel_rfl
  obtain ⟨ys0, m0, _, _, _, hl0, hx0⟩ := DataW.trod_array Try.underlying61 hf
  obtain ⟨y0_0, y0_1, rfl⟩ := froms6list2 hl0
  have q0_0 := hx0 0 (by simp)
  have q0_1 := hx0 1 (by simp)
  simp [k1] at q0_0 q0_1
  obtain ⟨ys1, m1, _, _, _, hl1, hx1⟩ := DataW.trod_struct Try.underlying28 q0_0
  obtain ⟨y1_0, y1_1, rfl⟩ := froms6list2 hl1
  have q1_0 := hx1 0 _ rfl
  have q1_1 := hx1 1 _ rfl
  simp [k2, k3] at q1_0 q1_1
  obtain ⟨x0, e0, _, w0⟩ := DataW.trod_int Try.underlying22 q1_0
  obtain ⟨ys2, m2, _, _, _, hl2, hx2⟩ := DataW.trod_struct Try.underlying26 q1_1
  obtain ⟨y2_0, y2_1, rfl⟩ := froms6list2 hl2
  have q2_0 := hx2 0 _ rfl
  have q2_1 := hx2 1 _ rfl
  simp [k2] at q2_0 q2_1
  obtain ⟨x1, e1, _, w1⟩ := DataW.trod_int Try.underlying22 q2_0
  obtain ⟨x2, e2, _, w2⟩ := DataW.trod_int Try.underlying22 q2_1
  obtain ⟨ys3, m3, _, _, _, hl3, hx3⟩ := DataW.trod_struct Try.underlying28 q0_1
  obtain ⟨y3_0, y3_1, rfl⟩ := froms6list2 hl3
  have q3_0 := hx3 0 _ rfl
  have q3_1 := hx3 1 _ rfl
  simp [k2, k3] at q3_0 q3_1
  obtain ⟨x3, e3, _, w3⟩ := DataW.trod_int Try.underlying22 q3_0
  obtain ⟨ys4, m4, _, _, _, hl4, hx4⟩ := DataW.trod_struct Try.underlying26 q3_1
  obtain ⟨y4_0, y4_1, rfl⟩ := froms6list2 hl4
  have q4_0 := hx4 0 _ rfl
  have q4_1 := hx4 1 _ rfl
  simp [k2] at q4_0 q4_1
  obtain ⟨x4, e4, _, w4⟩ := DataW.trod_int Try.underlying22 q4_0
  obtain ⟨x5, e5, _, w5⟩ := DataW.trod_int Try.underlying22 q4_1
  simp at e0 e1 e2 e3 e4 e5
  subst e0 e1 e2 e3 e4 e5
  exact ⟨x0, x1, x2, x3, x4, x5, rfl, bounds_u64 w0, bounds_u64 w1, bounds_u64 w2, bounds_u64 w3, bounds_u64 w4, bounds_u64 w5⟩
set_option maxRecDepth 100000 in
theorem open_froms6 {H : Type} {w : World} {base : Nat} {spare : Nat → Bool} {held : Bool} {enc : TypeId × Value → H} {r : Reach} {b0 : Nat} {v : Value} {d : DataW H} {p : List MemPlace} (hv : Value.okWide Try.prog w r b0 61 v) (h : DataW.Trod enc Try.prog w base spare held 61 v d p) :
    ∃ (x0 : Int) (x1 : Int) (x2 : Int) (x3 : Int) (x4 : Int) (x5 : Int), v = .agg #[.int .u64 x0, .int .u64 x1, .int .u64 x2, .int .u64 x3, .int .u64 x4, .int .u64 x5] ∧ (0 ≤ x0 ∧ x0 ≤ 18446744073709551615) ∧ (0 ≤ x1 ∧ x1 ≤ 18446744073709551615) ∧ (0 ≤ x2 ∧ x2 ≤ 18446744073709551615) ∧ (0 ≤ x3 ∧ x3 ≤ 18446744073709551615) ∧ (0 ≤ x4 ∧ x4 ≤ 18446744073709551615) ∧ (0 ≤ x5 ∧ x5 ≤ 18446744073709551615) := by
  obtain ⟨cs, rfl, hsz⟩ := okWide_arr Try.underlying61 hv
  obtain ⟨l⟩ := cs
  obtain ⟨c0, c1, c2, c3, c4, c5, rfl⟩ := froms6list6 (l := l) (hsz.trans (show Try.prog.cellsOf 61 = 6 by kernel_rfl))
  obtain ⟨fuel, hf⟩ := h
  obtain ⟨x0, x1, x2, x3, x4, x5, e, bs⟩ := cells_froms6 (x := (d, p)) (show DataW.trod enc Try.prog w base spare held fuel 61 [c0, c1, c2, c3, c4, c5] = some (d, p) by simpa [Value.cells] using hf)
  simp at e
  obtain ⟨rfl, rfl, rfl, rfl, rfl, rfl⟩ := e
  exact ⟨x0, x1, x2, x3, x4, x5, rfl, bs⟩
theorem LinesEligible_walk (m : Int) (hm : 0 ≤ m ∧ m ≤ 18446744073709551615) (d : Int) (hd : 0 ≤ d ∧ d ≤ 18446744073709551615) (n : Int) (hn : 0 ≤ n ∧ n ≤ 18446744073709551615) (xa : Int) (hxa : 0 ≤ xa ∧ xa ≤ 18446744073709551615) (a1 : Int) (ha1 : 0 ≤ a1 ∧ a1 ≤ 18446744073709551615) (a2 : Int) (ha2 : 0 ≤ a2 ∧ a2 ≤ 18446744073709551615) (xb : Int) (hxb : 0 ≤ xb ∧ xb ≤ 18446744073709551615) (b1 : Int) (hb1 : 0 ≤ b1 ∧ b1 ≤ 18446744073709551615) (b2 : Int) (hb2 : 0 ≤ b2 ∧ b2 ≤ 18446744073709551615) (t : Int) (ht : 0 ≤ t ∧ t ≤ 18446744073709551615) (u : Int) (hu : 0 ≤ u ∧ u ≤ 18446744073709551615) (w : World) :
    Calls Try.prog 7 #[.agg #[.int .u64 m, .int .u64 d, .int .u64 n], .agg #[.int .u64 xa, .int .u64 a1, .int .u64 a2, .int .u64 xb, .int .u64 b1, .int .u64 b2], .agg #[.int .u64 t, .int .u64 u]] w fun e w' => e = .returned (.bool true) ∧ Below w.heap.size w w' := by
  obtain ⟨ya, hya, rfl, rfl⟩ := wv_of ha1 ha2
  obtain ⟨yb, hyb, rfl, rfl⟩ := wv_of hb1 hb2
  rcases ha : (decide (xa < 4611686018427387904) && decide (hi ya < 1073741824)) with _ | _
  · exact LE_0 m d n xa ya xb yb t u 0 w ha
  rcases hb : (decide (xb < 4611686018427387904) && decide (hi yb < 1073741824)) with _ | _
  · exact LE_1 m d n xa ya xb yb t u 0 w ha hb
  by_cases h1 : xb < xa
  · exact LE_2 m d n xa ya xb yb t u 0 w ha hb (decide_eq_true h1)
  have d1 := decide_eq_false h1
  by_cases h2 : yb < ya
  · exact LE_3 m d n xa ya xb yb t u _ w ha hb d1 hya hyb rfl (cmp_neg h2)
  have k0 : decide (cmp yb ya < 0) = false := cmp_nlt (by omega)
  by_cases hk : kd m d n = 0
  · exact LE_4 m d n xa ya xb yb t u _ w ha hb d1 hya hyb rfl k0 hm.1 hd.1 hn.1 (by simp [hk])
  have hk' : (kd m d n != 0) = true := by simp [hk]
  by_cases h3 : t < xb
  · exact LE_5 m d n xa ya xb yb t u _ w ha hb d1 hya hyb rfl k0 hm.1 hd.1 hn.1 hk' (decide_eq_true h3)
  have d2 := decide_eq_false h3
  by_cases h4 : 4611686018427387904 ≤ t
  · exact LE_6 m d n xa ya xb yb t u _ w ha hb d1 hya hyb rfl k0 hm.1 hd.1 hn.1 hk' d2 (decide_eq_true h4)
  have d3 := decide_eq_false h4
  by_cases h5 : 4611686018427387904 ≤ u
  · exact LE_7 m d n xa ya xb yb t u _ w ha hb d1 hya hyb rfl k0 hm.1 hd.1 hn.1 hk' d2 d3 (decide_eq_true h5)
  have d4 := decide_eq_false h5
  have hc := CIn.of hm.1 hd.1 hn.1 hk
  obtain ⟨ha3, fa⟩ := fin_of hxa.1 hya ha
  obtain ⟨hb3, fb⟩ := fin_of hxb.1 hyb hb
  have sa := RN.small_ok (start_small hc fa); have sb := RN.small_ok (start_small hc fb)
  have ra := RN.small_ok (ready_small hc fa); have rb := RN.small_ok (ready_small hc fb)
  have mD := RN.meet_ok sa sb; have mE := RN.meet_ok ra rb
  have el := elig (t := t) (u := u) hc fa fb (by omega) (by omega) (by omega)
  rw [← sk_sv hk] at el
  have hsv := sk_rng (t := u) hm.1 hd.1 hn.1 hu.1
  have hsm := RN.meet_small (ready_small hc fa) (ready_small hc fb)
  have iE := RN.at_in mE t; have iD := RN.at_in mD (t + u)
  have hE : (RN.meet (RN.ready m d n xa ya) (RN.ready m d n xb yb)).at t ≤ 340282366920938463463374607431768211455 - 4294967295 * 4611686018427387904 := by
    have h1 := RN.at_le_t (RN.meet (RN.ready m d n xa ya) (RN.ready m d n xb yb)) t
    have hl := hsm.2
    have h2 : (RN.meet (RN.ready m d n xa ya) (RN.ready m d n xb yb)).t.at t < 1267650600228229401496703205376 + 68719476736 * 18446744073709551616 := by
      unfold LN.at
      rw [la_small hl.1 hl.2.1 ht.2]
      have hb := hl.1
      have hX := hl.2
      unfold LSmall at hb
      split
      · omega
      · have := Int.mul_le_mul (show (RN.meet (RN.ready m d n xa ya) (RN.ready m d n xb yb)).t.M ≤ 68719476736 by omega) (show t - (RN.meet (RN.ready m d n xa ya) (RN.ready m d n xb yb)).t.X ≤ 18446744073709551616 by omega) (by omega) (by omega)
        omega
    omega
  have i9 : In128 ((RN.meet (RN.ready m d n xa ya) (RN.ready m d n xb yb)).at t + sk m d n u) := by unfold In128 at *; omega
  by_cases h6 : (RN.meet (RN.start m d n xa ya) (RN.start m d n xb yb)).at (t + u) ≤ yb
  · exact LE_x m d n xa ya xb yb t u _ _ _ _ _ _ 0 _ _ _ _ _ _ w ha hb d1 hya hyb rfl k0 hm hd hn hk' d2 d3 d4 ⟨hxa.1, ha3⟩ ⟨hxb.1, hb3⟩ (by omega) (by omega) rfl sa rfl sb rfl mD rfl ra rfl rb rfl mE rfl iE rfl (sk_in hm.1 hd.1 hn.1 hu.1 hu.2) rfl i9 rfl iD rfl (cmp_le h6)
  · exact LE_y m d n xa ya xb yb t u _ _ _ _ _ _ _ _ _ _ _ _ _ w ha hb d1 hya hyb rfl k0 hm hd hn hk' d2 d3 d4 ⟨hxa.1, ha3⟩ ⟨hxb.1, hb3⟩ (by omega) (by omega) rfl sa rfl sb rfl mD rfl ra rfl rb rfl mE rfl iE rfl (sk_in hm.1 hd.1 hn.1 hu.1 hu.2) rfl i9 rfl iD rfl (by unfold cmp; (repeat' split) <;> simp <;> omega) rfl (cmp_le el)
namespace linesEligibleDone
theorem own : ownKnob Try.prog.godebug = none := by kernel_rfl
theorem laidOut : laidOutB Try.prog = true := by kernel_rfl
set_option maxRecDepth 100000 in
theorem lifted (os : Os) (started : os.Started) (H : Type) (enc : TypeId × Value → H) :
    ReturnsInHanded {} Try.checked os 7 .any (Rows.linesEligibleSpec.pre6 enc Try.prog Try.f7 Rows.linesEligibleRow.domain false) (Rows.linesEligibleSpec.post enc Try.prog Try.f7 false true false false) := by
  refine returnsInHanded_of_change (C := Try.checked) own started (by kernel_rfl) Try.func7
    (ChangeSpec.witness6 (enc := enc) (C := Try.checked) false ⟨#[], #[.agg #[.int .u64 0, .int .u64 0, .int .u64 0], .agg #[.int .u64 0, .int .u64 0, .int .u64 0, .int .u64 0, .int .u64 0, .int .u64 0], .agg #[.int .u64 0, .int .u64 0]], []⟩ 8 (by kernel_rfl) (by kernel_rfl) (by kernel_rfl) (by kernel_rfl)) ?_
  intro W base args ds gs before hval0 hW hcnd _
  have hval : ∀ (j : Nat) t v, Try.f7.params[j]? = some t → args[j]? = some v → Value.okWide Try.prog W .any base t v := hval0
  have hW' := hW
  obtain ⟨p, q, hA0, hV, rfl, hfz, hnd⟩ := hW
  have hA : DataW.TrodAll enc Try.prog W 0 (fun _ => true) true Try.f7.params.toList args.toList ds p := hA0
  rw [Try.params7] at hA hval
  obtain ⟨v0, vs0, d0, ds0, p0, q0, hargs, rfl, rfl, h0, r0⟩ := trodAll_cons hA
  obtain ⟨v1, vs1, d1, ds1, p1, q1, rfl, rfl, rfl, h1, r1⟩ := trodAll_cons r0
  obtain ⟨v2, vs2, d2, ds2, p2, q2, rfl, rfl, rfl, h2, r2⟩ := trodAll_cons r1
  obtain ⟨rfl, rfl, rfl⟩ := trodAll_nil r2
  obtain rfl : args = #[v0, v1, v2] := by cases args; simp_all
  obtain ⟨rfl, rfl⟩ := trodVars_none hV
  have k0 := h0
  have lt0 : ∀ x ∈ p0, x.block < W.heap.size := by obtain ⟨m, hm⟩ := k0; exact DataW.trod_lt m _ _ _ hm
  obtain ⟨x0_0, x0_1, x0_2, y0_0, y0_1, y0_2, m0, rfl, hd0, hp0, q0_0, q0_1, q0_2⟩ := Joins.open_agg3 Try.underlying24 (by kernel_rfl) (show Try.prog.cellsOf 24 = 3 by kernel_rfl) (hval 0 24 v0 rfl rfl) h0
  obtain ⟨a0_0, e0_0, _, wf0_0⟩ := DataW.trod_int Try.underlying22 q0_0
  simp at e0_0
  subst e0_0
  have b0_0 := bounds_u64 wf0_0
  obtain ⟨a0_1, e0_1, _, wf0_1⟩ := DataW.trod_int Try.underlying22 q0_1
  simp at e0_1
  subst e0_1
  have b0_1 := bounds_u64 wf0_1
  obtain ⟨a0_2, e0_2, _, wf0_2⟩ := DataW.trod_int Try.underlying22 q0_2
  simp at e0_2
  subst e0_2
  have b0_2 := bounds_u64 wf0_2
  have k1 := h1
  have lt1 : ∀ x ∈ p1, x.block < W.heap.size := by obtain ⟨m, hm⟩ := k1; exact DataW.trod_lt m _ _ _ hm
  obtain ⟨a1_0, a1_1, a1_2, a1_3, a1_4, a1_5, rfl, b1_0, b1_1, b1_2, b1_3, b1_4, b1_5⟩ := open_froms6 (hval 1 61 v1 rfl rfl) h1
  have k2 := h2
  have lt2 : ∀ x ∈ p2, x.block < W.heap.size := by obtain ⟨m, hm⟩ := k2; exact DataW.trod_lt m _ _ _ hm
  obtain ⟨a2_0, a2_1, rfl, wf2_0, wf2_1⟩ := open_arr2 Try.underlying62 Try.underlying22 (by kernel_rfl) (by kernel_rfl) (hval 2 62 v2 rfl rfl) h2
  have b2_0 := bounds_u64 wf2_0
  have b2_1 := bounds_u64 wf2_1
  clear hA0 hval0
  refine (LinesEligible_walk a0_0 b0_0 a0_1 b0_1 a0_2 b0_2 a1_0 b1_0 a1_1 b1_1 a1_2 b1_2 a1_3 b1_3 a1_4 b1_4 a1_5 b1_5 a2_0 b2_0 a2_1 b2_1 W).mono fun e W' ⟨he, bel⟩ => ?_
  subst he
  exact ⟨_, rfl, _, _, _, [], _, [], hW', trodAll_mk1 (shut_bool Try.underlying4 _), (trodAll_cons_mk (Below.trod laidOut (by kernel_rfl) (of_decide_eq_true (by kernel_rfl)) k0 bel lt0) (trodAll_cons_mk (Below.trod laidOut (by kernel_rfl) (of_decide_eq_true (by kernel_rfl)) k1 bel lt1) (trodAll_cons_mk (Below.trod laidOut (by kernel_rfl) (of_decide_eq_true (by kernel_rfl)) k2 bel lt2) trodAll_mk0))), rfl, bel.frame _, fun h => by cases h⟩
theorem over : Rows.linesEligibleRow.holds Try.pinned (OpenSpec.ofChange Rows.linesEligibleSpec) :=
  OpenClaim.holds_of_wide 7 Try.f7 rfl rfl rfl rfl rfl rfl rfl ⟨rfl, rfl, rfl, rfl, rfl⟩ rfl rfl rfl rfl rfl (by kernel_rfl) Try.func7 (by kernel_rfl)
    (of_decide_eq_true (by kernel_rfl)) (by unfold Func.isWrapper; first | (rw [if_pos (by decide +kernel)]; kernel_rfl) | (rw [if_neg (by decide +kernel)]; exact ⟨rfl, rfl⟩))
    (fun os started H enc _ => lifted os started H enc)
end linesEligibleDone
theorem LinesEligible_holds : Rows.LinesEligibleSaid := linesEligibleDone.over

end Go.Proofs.Ytaaoadbcgnedkaa
