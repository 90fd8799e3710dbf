/-
  The statements LinesStarts and LinesTells: the runs of any curve; any run at any tick, and when it reaches any amount; the meeting of any two. Conditions: none.
-/
import Derived.Test.YtaaoadbcgnedkaaRunT
import Derived.Test.YtaaoadbcgnedkaaFrame
namespace Go.Proofs.Ytaaoadbcgnedkaa
open Go.ChangeShapes Go.WideShapes Go.ChangeAt Go.RowKit
open Go.Sort
set_option linter.unusedVariables false
set_option linter.unusedSimpArgs false
theorem from6list2 {α : Type} {l : List α} (h : l.length = 2) : ∃ a0 a1, l = [a0, a1] := by
  match l, h with
  | [a0, a1], _ => exact ⟨a0, a1, rfl⟩
theorem from6list3 {α : Type} {l : List α} (h : l.length = 3) : ∃ a0 a1 a2, l = [a0, a1, a2] := by
  match l, h with
  | [a0, a1, a2], _ => exact ⟨a0, a1, a2, rfl⟩
theorem cells_from6 {H : Type} {w : World} {base : Nat} {spare : Nat → Bool} {held : Bool} {enc : TypeId × Value → H} {fuel : Nat} {c0 c1 c2 : Value} {x : DataW H × List MemPlace} (hf : DataW.trod enc Try.prog w base spare held fuel 28 [c0, c1, c2] = some x) :
    ∃ (x0 : Int) (x1 : Int) (x2 : Int), [c0, c1, c2] = [.int .u64 x0, .int .u64 x1, .int .u64 x2] ∧ (0 ≤ x0 ∧ x0 ≤ 18446744073709551615) ∧ (0 ≤ x1 ∧ x1 ≤ 18446744073709551615) ∧ (0 ≤ x2 ∧ x2 ≤ 18446744073709551615) := by
  have k0 : Try.prog.cellsOf 28 = 3 := by kernel_rfl
  have k1 : Try.prog.cellsOf 22 = 1 := by kernel_rfl
  have k2 : Try.prog.cellsOf 26 = 2 := by kernel_rfl
  obtain ⟨ys0, m0, _, _, _, hl0, hx0⟩ := DataW.trod_struct Try.underlying28 hf
  obtain ⟨y0_0, y0_1, rfl⟩ := from6list2 hl0
  have q0_0 := hx0 0 _ rfl
  have q0_1 := hx0 1 _ rfl
  simp [k1, k2] at q0_0 q0_1
  obtain ⟨x0, e0, _, w0⟩ := DataW.trod_int Try.underlying22 q0_0
  obtain ⟨ys1, m1, _, _, _, hl1, hx1⟩ := DataW.trod_struct Try.underlying26 q0_1
  obtain ⟨y1_0, y1_1, rfl⟩ := from6list2 hl1
  have q1_0 := hx1 0 _ rfl
  have q1_1 := hx1 1 _ rfl
  simp [k1] at q1_0 q1_1
  obtain ⟨x1, e1, _, w1⟩ := DataW.trod_int Try.underlying22 q1_0
  obtain ⟨x2, e2, _, w2⟩ := DataW.trod_int Try.underlying22 q1_1
  simp at e0 e1 e2
  subst e0 e1 e2
  exact ⟨x0, x1, x2, rfl, bounds_u64 w0, bounds_u64 w1, bounds_u64 w2⟩
set_option maxRecDepth 100000 in
theorem open_from6 {H : Type} {w : World} {base : Nat} {spare : Nat → Bool} {held : Bool} {enc : TypeId × Value → H} {r : Reach} {b0 : Nat} {v : Value} {d : DataW H} {p : List MemPlace} (hv : Value.okWide Try.prog w r b0 28 v) (h : DataW.Trod enc Try.prog w base spare held 28 v d p) :
    ∃ (x0 : Int) (x1 : Int) (x2 : Int), v = .agg #[.int .u64 x0, .int .u64 x1, .int .u64 x2] ∧ (0 ≤ x0 ∧ x0 ≤ 18446744073709551615) ∧ (0 ≤ x1 ∧ x1 ≤ 18446744073709551615) ∧ (0 ≤ x2 ∧ x2 ≤ 18446744073709551615) := by
  obtain ⟨cs, rfl, hsz⟩ := okWide_struct Try.underlying28 hv
  obtain ⟨l⟩ := cs
  obtain ⟨c0, c1, c2, rfl⟩ := from6list3 (l := l) (hsz.trans (show Try.prog.cellsOf 28 = 3 by kernel_rfl))
  obtain ⟨fuel, hf⟩ := h
  obtain ⟨x0, x1, x2, e, bs⟩ := cells_from6 (x := (d, p)) (show DataW.trod enc Try.prog w base spare held fuel 28 [c0, c1, c2] = some (d, p) by simpa [Value.cells] using hf)
  simp at e
  obtain ⟨rfl, rfl, rfl⟩ := e
  exact ⟨x0, x1, x2, rfl, bs⟩
set_option maxRecDepth 100000 in
theorem LS_far (m d n x y : Int) (w : World) (h : 9223372036854775808 < x) :
    Calls Try.prog 3 #[.agg #[.int .u64 m, .int .u64 d, .int .u64 n], .agg #[.int .u64 x, .int .u64 (hi y), .int .u64 (lo y)]] w fun e w' => e = .returned (.bool true) ∧ Below w.heap.size w w' := by
  have d1 : decide (9223372036854775808 < x) = true := decide_eq_true h
  go_enter Try.func3, Try.ntmps3
  go_wp2_with fail
  refine (hundred06 _).mono ?_
  rintro e w1 ⟨rfl, hb1⟩
  have g1 : Below w.heap.size w w1 := by refine Below.trans ?_ (hb1.mono ?_) <;> (repeat' (first | (with_reducible exact Below.refl _ _) | (with_reducible assumption) | (with_reducible refine below_drewN ?_ _) | (with_reducible refine Below.drew ?_) | (with_reducible refine Below.alloc ?_ ?_ _) | (with_reducible refine Below.setCell ?_ ?_ _) | go_size))
  have hz1 := hb1.size
  (try simp at hz1)
  clear hb1
  go_wp2
  go_ret
  exact ⟨rfl, by (repeat' (first | (with_reducible exact Below.refl _ _) | (with_reducible assumption) | (with_reducible refine below_drewN ?_ _) | (with_reducible refine Below.drew ?_) | (with_reducible refine Below.alloc ?_ ?_ _) | (with_reducible refine Below.setCell ?_ ?_ _) | go_size))⟩
set_option maxRecDepth 100000 in
set_option maxHeartbeats 4000000 in
theorem LS_main (m d n x y : Int) (r s : RN) (w : World) (hm : 0 ≤ m ∧ m ≤ 18446744073709551615) (hd : 0 ≤ d ∧ d ≤ 18446744073709551615) (hn : 0 ≤ n ∧ n ≤ 18446744073709551615) (hx : 0 ≤ x ∧ x ≤ 9223372036854775808) (hy : In128 y) (hr : RN.start m d n x y = r) (hs : RN.ready m d n x y = s) (or : r.ok) (os : s.ok) :
    Calls Try.prog 3 #[.agg #[.int .u64 m, .int .u64 d, .int .u64 n], .agg #[.int .u64 x, .int .u64 (hi y), .int .u64 (lo y)]] w fun e w' => e = .returned (.bool true) ∧ Below w.heap.size w w' := by
  have d1 : decide (9223372036854775808 < x) = false := decide_eq_false (by omega)
  have e1 := rreq r or; have e2 := rreq s os
  have Hr := hide hr; have Hs := hide hs
  clear hr hs
  go_enter Try.func3, Try.ntmps3
  go_wp2_with fail
  refine wp_forget (fun v => Below w.heap.size w v ∧ Blk v (w.heap.size) #[.int .u64 m, .int .u64 d, .int .u64 n] 24 ∧ Blk v (w.heap.size + 1) #[.int .u64 x, .int .u64 (hi (y)), .int .u64 (lo (y))] 28) ⟨by (repeat' (first | (with_reducible exact Below.refl _ _) | (with_reducible assumption) | (with_reducible refine below_drewN ?_ _) | (with_reducible refine Below.drew ?_) | (with_reducible refine Below.alloc ?_ ?_ _) | (with_reducible refine Below.setCell ?_ ?_ _) | go_size)), by (repeat' (first | (with_reducible assumption) | (with_reducible exact Blk.alloc_new _ _ _ (by first | rfl | (simp; done) | omega)) | (with_reducible apply Blk.drewN) | (with_reducible apply Blk.drew) | (with_reducible apply Blk.alloc_old) | (with_reducible apply Blk.set_same) | (with_reducible apply Blk.set_other) | (show (_ : Nat) ≠ _; first | omega | (simp; done) | (simp; omega)) | ((simp only [List.setIfInBounds_toArray, List.set_cons_succ, List.set_cons_zero]); (with_reducible exact rfl)) | (with_reducible exact rfl) | (show (_ : Array Value) = _; exact rfl))), by (repeat' (first | (with_reducible assumption) | (with_reducible exact Blk.alloc_new _ _ _ (by first | rfl | (simp; done) | omega)) | (with_reducible apply Blk.drewN) | (with_reducible apply Blk.drew) | (with_reducible apply Blk.alloc_old) | (with_reducible apply Blk.set_same) | (with_reducible apply Blk.set_other) | (show (_ : Nat) ≠ _; first | omega | (simp; done) | (simp; omega)) | ((simp only [List.setIfInBounds_toArray, List.set_cons_succ, List.set_cons_zero]); (with_reducible exact rfl)) | (with_reducible exact rfl) | (show (_ : Array Value) = _; exact rfl)))⟩ ?_
  rintro v1 ⟨gv1, Cv1, Fv1⟩
  have qC1 := blk_calm Cv1
  have qF1 := blk_calm Fv1
  refine wp_region_quiet_below (by kernel_rfl) (by kernel_rfl) ?_
  repeat (go_big_quiet_step ((first
      | (go_at_call 14; (with_reducible exact Calls.regrown_of (start_any m d n x y r _ hm hd hn hx hy Hr.out)))
      | (go_at_call 17; (with_reducible exact Calls.regrown_of (ready_any m d n x y s _ hm hd hn hy Hs.out)))
      | (go_at_call 13; (with_reducible exact Calls.regrown_of (ref06 r _ or)))
      | (go_at_call 13; (with_reducible exact Calls.regrown_of (ref06 s _ os)))
      | (go_at_call 16; (with_reducible exact Calls.regrown_of (num06 y _ hy)))
      | (go_at_call 15; (with_reducible exact Calls.regrown_of (rstartT m d n x y r _ hm hd hn hx hy Hr.out)))
      | (go_at_call 15; (with_reducible exact Calls.regrown_of (rstartF m d n x y s _ hm hd hn hx hy Hs.out)))
      | (go_at_call 12; (with_reducible exact Calls.regrown_of (hundred06 _))))))
  refine wpQuiet_nil ?_
  intro _ hw'
  obtain ⟨pq, hw''⟩ := hw'
  subst hw''
  have hb1 := below_regrown v1 pq.d pq.os
  generalize Sort.grow (redrawn v1 pq.d) pq.os = w1 at *
  have C1 : Blk w1 (w.heap.size) #[.int .u64 m, .int .u64 d, .int .u64 n] 24 := Blk.below Cv1 hb1 Cv1.size
  have F1 : Blk w1 (w.heap.size + 1) #[.int .u64 x, .int .u64 (hi (y)), .int .u64 (lo (y))] 28 := Blk.below Fv1 hb1 Fv1.size
  have g1 : Below w.heap.size w w1 := gv1.trans (hb1.mono gv1.size)
  have hz1 : w.heap.size ≤ w1.heap.size := g1.size
  clear hb1 gv1 Cv1 qC1 Fv1 qF1
  replace cC := C1.cell
  replace fC := C1.frozen
  replace zC := C1.size
  replace cF := F1.cell
  replace fF := F1.frozen
  replace zF := F1.size
  go_wp2
  go_ret
  exact ⟨rfl, by (repeat' (first | (with_reducible exact Below.refl _ _) | (with_reducible assumption) | (with_reducible refine below_drewN ?_ _) | (with_reducible refine Below.drew ?_) | (with_reducible refine Below.alloc ?_ ?_ _) | (with_reducible refine Below.setCell ?_ ?_ _) | go_size))⟩
theorem LinesStarts_walk (m : Int) (hm : 0 ≤ m ∧ m ≤ 18446744073709551615) (d : Int) (hd : 0 ≤ d ∧ d ≤ 18446744073709551615) (n : Int) (hn : 0 ≤ n ∧ n ≤ 18446744073709551615) (x : Int) (hx : 0 ≤ x ∧ x ≤ 18446744073709551615) (h : Int) (hh : 0 ≤ h ∧ h ≤ 18446744073709551615) (l : Int) (hl : 0 ≤ l ∧ l ≤ 18446744073709551615) (w : World) :
    Calls Try.prog 3 #[.agg #[.int .u64 m, .int .u64 d, .int .u64 n], .agg #[.int .u64 x, .int .u64 h, .int .u64 l]] w fun e w' => e = .returned (.bool true) ∧ Below w.heap.size w w' := by
  obtain ⟨y, hy, rfl, rfl⟩ := wv_of hh hl
  by_cases h1 : 9223372036854775808 < x
  · exact LS_far m d n x y w h1
  · exact LS_main m d n x y _ _ w hm hd hn (by omega) hy rfl rfl (RN.start_ok hm hd.1 hn (by omega) hy) (RN.ready_ok hm hn hx hy)
namespace linesStartsDone
theorem own : ownKnob Try.prog.godebug = none := by kernel_rfl
theorem laidOut : laidOutB Try.prog = true := by kernel_rfl
set_option maxRecDepth 100000 in
theorem lifted (os : Os) (started : os.Started) (H : Type) (enc : TypeId × Value → H) :
    ReturnsInHanded {} Try.checked os 3 .any (Rows.linesStartsSpec.pre6 enc Try.prog Try.f3 Rows.linesStartsRow.domain false) (Rows.linesStartsSpec.post enc Try.prog Try.f3 false true false false) := by
  refine returnsInHanded_of_change (C := Try.checked) own started (by kernel_rfl) Try.func3
    (ChangeSpec.witness6 (enc := enc) (C := Try.checked) false ⟨#[], #[.agg #[.int .u64 0, .int .u64 0, .int .u64 0], .agg #[.int .u64 0, .int .u64 0, .int .u64 0]], []⟩ 8 (by kernel_rfl) (by kernel_rfl) (by kernel_rfl) (by kernel_rfl)) ?_
  intro W base args ds gs before hval0 hW hcnd _
  have hval : ∀ (j : Nat) t v, Try.f3.params[j]? = some t → args[j]? = some v → Value.okWide Try.prog W .any base t v := hval0
  have hW' := hW
  obtain ⟨p, q, hA0, hV, rfl, hfz, hnd⟩ := hW
  have hA : DataW.TrodAll enc Try.prog W 0 (fun _ => true) true Try.f3.params.toList args.toList ds p := hA0
  rw [Try.params3] at hA hval
  obtain ⟨v0, vs0, d0, ds0, p0, q0, hargs, rfl, rfl, h0, r0⟩ := trodAll_cons hA
  obtain ⟨v1, vs1, d1, ds1, p1, q1, rfl, rfl, rfl, h1, r1⟩ := trodAll_cons r0
  obtain ⟨rfl, rfl, rfl⟩ := trodAll_nil r1
  obtain rfl : args = #[v0, v1] := by cases args; simp_all
  obtain ⟨rfl, rfl⟩ := trodVars_none hV
  have k0 := h0
  have lt0 : ∀ x ∈ p0, x.block < W.heap.size := by obtain ⟨m, hm⟩ := k0; exact DataW.trod_lt m _ _ _ hm
  obtain ⟨x0_0, x0_1, x0_2, y0_0, y0_1, y0_2, m0, rfl, hd0, hp0, q0_0, q0_1, q0_2⟩ := Joins.open_agg3 Try.underlying24 (by kernel_rfl) (show Try.prog.cellsOf 24 = 3 by kernel_rfl) (hval 0 24 v0 rfl rfl) h0
  obtain ⟨a0_0, e0_0, _, wf0_0⟩ := DataW.trod_int Try.underlying22 q0_0
  simp at e0_0
  subst e0_0
  have b0_0 := bounds_u64 wf0_0
  obtain ⟨a0_1, e0_1, _, wf0_1⟩ := DataW.trod_int Try.underlying22 q0_1
  simp at e0_1
  subst e0_1
  have b0_1 := bounds_u64 wf0_1
  obtain ⟨a0_2, e0_2, _, wf0_2⟩ := DataW.trod_int Try.underlying22 q0_2
  simp at e0_2
  subst e0_2
  have b0_2 := bounds_u64 wf0_2
  have k1 := h1
  have lt1 : ∀ x ∈ p1, x.block < W.heap.size := by obtain ⟨m, hm⟩ := k1; exact DataW.trod_lt m _ _ _ hm
  obtain ⟨a1_0, a1_1, a1_2, rfl, b1_0, b1_1, b1_2⟩ := open_from6 (hval 1 28 v1 rfl rfl) h1
  clear hA0 hval0
  refine (LinesStarts_walk a0_0 b0_0 a0_1 b0_1 a0_2 b0_2 a1_0 b1_0 a1_1 b1_1 a1_2 b1_2 W).mono fun e W' ⟨he, bel⟩ => ?_
  subst he
  exact ⟨_, rfl, _, _, _, [], _, [], hW', trodAll_mk1 (shut_bool Try.underlying4 _), (trodAll_cons_mk (Below.trod laidOut (by kernel_rfl) (of_decide_eq_true (by kernel_rfl)) k0 bel lt0) (trodAll_cons_mk (Below.trod laidOut (by kernel_rfl) (of_decide_eq_true (by kernel_rfl)) k1 bel lt1) trodAll_mk0)), rfl, bel.frame _, fun h => by cases h⟩
theorem over : Rows.linesStartsRow.holds Try.pinned (OpenSpec.ofChange Rows.linesStartsSpec) :=
  OpenClaim.holds_of_wide 3 Try.f3 rfl rfl rfl rfl rfl rfl rfl ⟨rfl, rfl, rfl, rfl, rfl⟩ rfl rfl rfl rfl rfl (by kernel_rfl) Try.func3 (by kernel_rfl)
    (of_decide_eq_true (by kernel_rfl)) (by unfold Func.isWrapper; first | (rw [if_pos (by decide +kernel)]; kernel_rfl) | (rw [if_neg (by decide +kernel)]; exact ⟨rfl, rfl⟩))
    (fun os started H enc _ => lifted os started H enc)
end linesStartsDone
theorem LinesStarts_holds : Rows.LinesStartsSaid := linesStartsDone.over

end Go.Proofs.Ytaaoadbcgnedkaa
