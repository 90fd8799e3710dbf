/-
  The statement LinkNil: a nil link is never free; the closed example 'ten'. Conditions: none.
-/
import Derived.Test.YtapikbgloagnkaaLink
import Derived.Test.YtapikbgloagnkaaPackF
namespace Go.Proofs.Ytapikbgloagnkaa
open Go.ChangeShapes Go.WideShapes Go.ChangeAt Go.RowKit
set_option linter.unusedVariables false
theorem lFree_nil (now : Int) (w : World) :
    Calls Try.prog 44 #[.pointer none, .int .u64 now] w fun e w' => e = .returned (.bool false) ∧ w = w' := by
  go_enter Try.func44, Try.ntmps44
  go_wp2
  go_ret
  exact ⟨rfl, rfl⟩
theorem lUntil_nil (w : World) :
    Calls Try.prog 43 #[.pointer none] w fun e w' => e = .returned (.int .u64 0) ∧ w = w' := by
  go_enter Try.func43, Try.ntmps43
  go_wp2
  go_ret
  exact ⟨rfl, rfl⟩
theorem lBusy_nil (w : World) :
    Calls Try.prog 42 #[.pointer none] w fun e w' => e = .returned (.int .u64 0) ∧ w = w' := by
  go_enter Try.func42, Try.ntmps42
  go_wp2
  go_ret
  exact ⟨rfl, rfl⟩
theorem lSent_nil (w : World) :
    Calls Try.prog 40 #[.pointer none] w fun e w' => e = .returned (.tuple #[.int .u64 0, .int .u64 0]) ∧ w = w' := by
  go_enter Try.func40, Try.ntmps40
  go_wp2
  go_returns
  exact ⟨rfl, rfl⟩
set_option maxHeartbeats 1000000 in
theorem ten_true (w : World) :
    Calls Try.prog 34 #[] w fun e w' => e = .returned (.bool true) ∧ Below w.heap.size w w' := by
  go_enter Try.func34, Try.ntmps34
  go_wp2_with fail
  refine (lNew 3 _ (by omega)).mono ?_
  rintro e w1 ⟨rfl, b1, L1⟩
  have z1 := L1.size
  go_wp2_with fail
  refine (lSend_ok 0 10 0 0 0 0 5 w.heap.size 0 0 0 3 0 _ L1 (by omega) (by omega) (by omega) (by omega) (by omega) (by omega) 30 rfl (by omega)).mono ?_
  rintro e w2 ⟨rfl, L2', K2⟩
  have L2 : Blk w2 w.heap.size #[.int .u64 1, .int .u64 10, .int .u64 30, .int .i64 3, .int .u64 35] 94 := L2'
  have b2 := b1.trans K2.1
  have z2 := L2.size
  clear L2' K2
  go_wp2_with fail
  refine (lSend_busy 0 1 0 0 0 0 34 w.heap.size 1 10 30 3 35 _ L2 (by omega) (by omega) (by omega)).mono ?_
  rintro e w3 ⟨rfl, b3⟩
  have L3 := L2.below b3 z2
  have b23 := b2.trans (b3.mono (by omega))
  have z3 := L3.size
  go_wp2_with fail
  refine (lSend_ok 0 1 0 0 0 0 35 w.heap.size 1 10 30 3 35 _ L3 (by omega) (by omega) (by omega) (by omega) (by omega) (by omega) 3 rfl (by omega)).mono ?_
  rintro e w4 ⟨rfl, L4', K4⟩
  have L4 : Blk w4 w.heap.size #[.int .u64 2, .int .u64 11, .int .u64 33, .int .i64 3, .int .u64 38] 94 := L4'
  have b4 := b23.trans K4.1
  have z4 := L4.size
  clear L4' K4
  go_wp2_with fail
  refine (lSent w.heap.size 2 11 33 3 38 _ L4).mono ?_
  rintro e w5 ⟨rfl, b5⟩
  have L5 := L4.below b5 z4
  have b45 := b4.trans (b5.mono (by omega))
  have z5 := L5.size
  go_wp2_with fail
  refine (lBusy w.heap.size 2 11 33 3 38 _ L5).mono ?_
  rintro e w6 ⟨rfl, rfl⟩
  go_wp2_with fail
  refine (lFree w.heap.size 2 11 33 3 38 _ L5 37 false (by decide)).mono ?_
  rintro e w7 ⟨rfl, rfl⟩
  go_wp2_with fail
  refine (lFree w.heap.size 2 11 33 3 38 _ L5 38 true (by decide)).mono ?_
  rintro e w8 ⟨rfl, rfl⟩
  go_wp2
  go_ret
  exact ⟨rfl, by (repeat' (first | (with_reducible exact Below.refl _ _) | (with_reducible assumption) | (with_reducible refine below_drewN ?_ _) | (with_reducible refine Below.drew ?_) | (with_reducible refine Below.alloc ?_ ?_ _) | (with_reducible refine Below.setCell ?_ ?_ _) | go_size))⟩
theorem LinkNil_walk (now id len h0 h1 h2 h3 : Int) (w : World) :
    Calls Try.prog 13 #[.agg #[.int .u64 now, .int .u64 id, .int .i64 len, .int .u16 h0, .int .u16 h1, .int .u16 h2, .int .u16 h3]] w fun e w' => e = .returned (.bool true) ∧ Below w.heap.size w w' := by
  go_enter Try.func13, Try.ntmps13
  go_wp2_with fail
  refine (lSend_nil id len h0 h1 h2 h3 now _).mono ?_
  rintro e w1 ⟨rfl, hb1⟩
  have A1 : Blk w1 (w.heap.size) #[.int .u64 now, .int .u64 id, .int .i64 len, .int .u16 h0, .int .u16 h1, .int .u16 h2, .int .u16 h3] 63 := Blk.below (by (repeat' (first | (with_reducible assumption) | (with_reducible exact Blk.alloc_new _ _ _ (by first | rfl | (simp; done) | omega)) | (with_reducible refine Blk.drewN ?_ _) | (with_reducible refine Blk.drew ?_) | (with_reducible refine Blk.alloc_old ?_ _) | (with_reducible apply Blk.set_same) | (with_reducible refine Blk.set_other ?_ (by first | omega | (simp; done) | (simp; omega)) _) | (exact rfl)))) hb1 (by first | (simp; done) | omega | (simp; omega))
  have g1 : Below w.heap.size w w1 := by refine Below.trans ?_ (hb1.mono ?_) <;> (repeat' (first | (with_reducible exact Below.refl _ _) | (with_reducible assumption) | (with_reducible refine below_drewN ?_ _) | (with_reducible refine Below.drew ?_) | (with_reducible refine Below.alloc ?_ ?_ _) | (with_reducible refine Below.setCell ?_ ?_ _) | go_size))
  have hz1 := hb1.size
  (try simp at hz1)
  clear hb1
  replace cA := A1.cell
  replace fA := A1.frozen
  replace zA := A1.size
  go_wp2_with fail
  refine (lSent_nil _).mono ?_
  rintro e u2 ⟨rfl, rfl⟩
  go_wp2_with fail
  refine (lFree_nil now _).mono ?_
  rintro e u3 ⟨rfl, rfl⟩
  go_wp2_with fail
  refine (lUntil_nil _).mono ?_
  rintro e u4 ⟨rfl, rfl⟩
  go_wp2_with fail
  refine (lBusy_nil _).mono ?_
  rintro e u5 ⟨rfl, rfl⟩
  go_wp2_with fail
  refine (ten_true _).mono ?_
  rintro e w6 ⟨rfl, hb6⟩
  have g6 : Below w.heap.size w w6 := by refine Below.trans ?_ (hb6.mono ?_) <;> (repeat' (first | (with_reducible exact Below.refl _ _) | (with_reducible assumption) | (with_reducible refine below_drewN ?_ _) | (with_reducible refine Below.drew ?_) | (with_reducible refine Below.alloc ?_ ?_ _) | (with_reducible refine Below.setCell ?_ ?_ _) | go_size))
  have hz6 := hb6.size
  (try simp at hz6)
  clear hb6
  go_wp2
  go_ret
  exact ⟨rfl, by (repeat' (first | (with_reducible exact Below.refl _ _) | (with_reducible assumption) | (with_reducible refine below_drewN ?_ _) | (with_reducible refine Below.drew ?_) | (with_reducible refine Below.alloc ?_ ?_ _) | (with_reducible refine Below.setCell ?_ ?_ _) | go_size))⟩
theorem list7 {α : Type} {l : List α} (h : l.length = 7) : ∃ a b c d e f g, l = [a, b, c, d, e, f, g] := by
  match l, h with
  | [a, b, c, d, e, f, g], _ => exact ⟨a, b, c, d, e, f, g, rfl⟩
theorem list2 {α : Type} {l : List α} (h : l.length = 2) : ∃ a b, l = [a, b] := by
  match l, h with
  | [a, b], _ => exact ⟨a, b, rfl⟩
section
variable {H : Type} {w : World} {base : Nat} {spare : Nat → Bool} {held : Bool} {enc : TypeId × Value → H}
/-- The cells of a call that came in. -/
theorem open_call_cells {fuel : Nat} {c0 c1 c2 c3 c4 c5 c6 : Value} {x : DataW H × List MemPlace} (hf : DataW.trod enc Try.prog w base spare held fuel 63 [c0, c1, c2, c3, c4, c5, c6] = some x) :
    ∃ now id len h0 h1 h2 h3 : Int, [c0, c1, c2, c3, c4, c5, c6] = [.int .u64 now, .int .u64 id, .int .i64 len, .int .u16 h0, .int .u16 h1, .int .u16 h2, .int .u16 h3] ∧ (0 ≤ now ∧ now ≤ 18446744073709551615) ∧ (0 ≤ id ∧ id ≤ 18446744073709551615) ∧ (-9223372036854775808 ≤ len ∧ len ≤ 9223372036854775807) ∧ (0 ≤ h0 ∧ h0 ≤ 65535) ∧ (0 ≤ h1 ∧ h1 ≤ 65535) ∧ (0 ≤ h2 ∧ h2 ≤ 65535) ∧ (0 ≤ h3 ∧ h3 ≤ 65535) := by
  obtain ⟨ys, m, _, _, _, hl, hx⟩ := DataW.trod_struct Try.underlying63 hf
  obtain ⟨y0, y1, rfl⟩ := list2 hl
  have k1 : Try.prog.cellsOf 22 = 1 := by kernel_rfl
  have k2 : Try.prog.cellsOf 3 = 1 := by kernel_rfl
  have k3 : Try.prog.cellsOf 40 = 4 := by kernel_rfl
  have k4 : Try.prog.cellsOf 42 = 6 := by kernel_rfl
  have q0 := hx 0 _ rfl
  have q1 := hx 1 _ rfl
  simp [k1, k4] at q0 q1
  obtain ⟨now, e0, _, w0⟩ := DataW.trod_int Try.underlying22 q0
  obtain ⟨zs, m', _, _, _, hl', hx'⟩ := DataW.trod_struct Try.underlying42 q1
  obtain ⟨z0, z1, z2, rfl⟩ := list3 hl'
  have r0 := hx' 0 _ rfl
  have r1 := hx' 1 _ rfl
  have r2 := hx' 2 _ rfl
  simp [k1, k2, k3] at r0 r1 r2
  obtain ⟨id, e1, _, w1⟩ := DataW.trod_int Try.underlying22 r0
  obtain ⟨len, e2, _, w2⟩ := DataW.trod_int Try.underlying3 r1
  obtain ⟨t0, t1, t2, t3, n, _, p0, p1, p2, p3⟩ := trod_array4 Try.underlying40 (show Try.prog.cellsOf 38 = 1 by kernel_rfl) r2
  obtain ⟨h0, e3, _, w3⟩ := DataW.trod_int Try.underlying38 p0
  obtain ⟨h1, e4, _, w4⟩ := DataW.trod_int Try.underlying38 p1
  obtain ⟨h2, e5, _, w5⟩ := DataW.trod_int Try.underlying38 p2
  obtain ⟨h3, e6, _, w6⟩ := DataW.trod_int Try.underlying38 p3
  simp at e0 e1 e2 e3 e4 e5 e6
  subst e0 e1 e2 e3 e4 e5 e6
  exact ⟨now, id, len, h0, h1, h2, h3, rfl, bounds_u64 w0, bounds_u64 w1, bounds_i64 w2, bounds_u16 w3, bounds_u16 w4, bounds_u16 w5, bounds_u16 w6⟩
theorem open_call25 {r : Reach} {b0 : Nat} {v : Value} {d : DataW H} {p : List MemPlace} (hv : Value.okWide Try.prog w r b0 63 v) (h : DataW.Trod enc Try.prog w base spare held 63 v d p) :
    ∃ now id len h0 h1 h2 h3 : Int, v = .agg #[.int .u64 now, .int .u64 id, .int .i64 len, .int .u16 h0, .int .u16 h1, .int .u16 h2, .int .u16 h3] ∧ (0 ≤ now ∧ now ≤ 18446744073709551615) ∧ (0 ≤ id ∧ id ≤ 18446744073709551615) ∧ (-9223372036854775808 ≤ len ∧ len ≤ 9223372036854775807) ∧ (0 ≤ h0 ∧ h0 ≤ 65535) ∧ (0 ≤ h1 ∧ h1 ≤ 65535) ∧ (0 ≤ h2 ∧ h2 ≤ 65535) ∧ (0 ≤ h3 ∧ h3 ≤ 65535) := by
  obtain ⟨cs, rfl, hsz⟩ := okWide_struct Try.underlying63 hv
  obtain ⟨l⟩ := cs
  obtain ⟨c0, c1, c2, c3, c4, c5, c6, rfl⟩ := list7 (l := l) (hsz.trans (show Try.prog.cellsOf 63 = 7 by kernel_rfl))
  obtain ⟨fuel, hf⟩ := h
  obtain ⟨now, id, len, h0, h1, h2, h3, e, bs⟩ := open_call_cells (x := (d, p)) (show DataW.trod enc Try.prog w base spare held fuel 63 [c0, c1, c2, c3, c4, c5, c6] = some (d, p) by simpa [Value.cells] using hf)
  simp at e
  obtain ⟨rfl, rfl, rfl, rfl, rfl, rfl, rfl⟩ := e
  exact ⟨now, id, len, h0, h1, h2, h3, rfl, bs⟩
end
namespace linkNilDone
theorem own : ownKnob Try.prog.godebug = none := by kernel_rfl
theorem laidOut : laidOutB Try.prog = true := by kernel_rfl
set_option maxRecDepth 100000 in
theorem lifted (os : Os) (started : os.Started) (H : Type) (enc : TypeId × Value → H) :
    ReturnsInHanded {} Try.checked os 13 .any (Rows.linkNilSpec.pre6 enc Try.prog Try.f13 Rows.linkNilRow.domain false) (Rows.linkNilSpec.post enc Try.prog Try.f13 false true false false) := by
  refine returnsInHanded_of_change (C := Try.checked) own started (by kernel_rfl) Try.func13
    (ChangeSpec.witness6 (enc := enc) (C := Try.checked) false ⟨#[], #[.agg #[.int .u64 0, .int .u64 0, .int .i64 0, .int .u16 0, .int .u16 0, .int .u16 0, .int .u16 0]], []⟩ 8 (by kernel_rfl) (by kernel_rfl) (by kernel_rfl) (by kernel_rfl)) ?_
  intro W base args ds gs before hval0 hW hcnd _
  have hval : ∀ (j : Nat) t v, Try.f13.params[j]? = some t → args[j]? = some v → Value.okWide Try.prog W .any base t v := hval0
  have hW' := hW
  obtain ⟨p, q, hA0, hV, rfl, hfz, hnd⟩ := hW
  have hA : DataW.TrodAll enc Try.prog W 0 (fun _ => true) true Try.f13.params.toList args.toList ds p := hA0
  rw [Try.params13] at hA hval
  obtain ⟨v0, vs0, d0, ds0, p0, q0, hargs, rfl, rfl, h0, r0⟩ := trodAll_cons hA
  obtain ⟨rfl, rfl, rfl⟩ := trodAll_nil r0
  obtain rfl : args = #[v0] := by cases args; simp_all
  obtain ⟨rfl, rfl⟩ := trodVars_none hV
  have k0 := h0
  have lt0 : ∀ x ∈ p0, x.block < W.heap.size := by obtain ⟨m, hm⟩ := k0; exact DataW.trod_lt m _ _ _ hm
  obtain ⟨nw0, id0, ln0, g00, g01, g02, g03, rfl, bn0, bd0, bl0, bg00, bg01, bg02, bg03⟩ := open_call25 (hval 0 63 v0 rfl rfl) h0
  clear hA0 hval0
  refine (LinkNil_walk nw0 id0 ln0 g00 g01 g02 g03 W).mono fun e W' ⟨he, bel⟩ => ?_
  subst he
  exact ⟨_, rfl, _, _, _, [], _, [], hW', trodAll_mk1 (shut_bool Try.underlying4 _), (trodAll_cons_mk (Below.trod laidOut (by kernel_rfl) (of_decide_eq_true (by kernel_rfl)) k0 bel lt0) trodAll_mk0), rfl, bel.frame _, fun h => by cases h⟩
theorem over : Rows.linkNilRow.holds Try.pinned (OpenSpec.ofChange Rows.linkNilSpec) :=
  OpenClaim.holds_of_wide 13 Try.f13 rfl rfl rfl rfl rfl rfl rfl ⟨rfl, rfl, rfl, rfl, rfl⟩ rfl rfl rfl rfl rfl (by kernel_rfl) Try.func13 (by kernel_rfl)
    (of_decide_eq_true (by kernel_rfl)) (by unfold Func.isWrapper; first | (rw [if_pos (by decide +kernel)]; kernel_rfl) | (rw [if_neg (by decide +kernel)]; exact ⟨rfl, rfl⟩))
    (fun os started H enc _ => lifted os started H enc)
end linkNilDone
theorem LinkNil_holds : Rows.LinkNilSaid := linkNilDone.over

end Go.Proofs.Ytapikbgloagnkaa
