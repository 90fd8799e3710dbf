/-
  The statement LinesTells: any run at any tick, and when it reaches any amount; the meeting of any two. Conditions: none.
-/
import Derived.Test.YtaaoadbcgnedkaaLawE1
namespace Go.Proofs.Ytaaoadbcgnedkaa
open Go.ChangeShapes Go.WideShapes Go.ChangeAt Go.RowKit
open Go.Sort
set_option linter.unusedVariables false
set_option linter.unusedSimpArgs false
theorem runlist2 {α : Type} {l : List α} (h : l.length = 2) : ∃ a0 a1, l = [a0, a1] := by
  match l, h with
  | [a0, a1], _ => exact ⟨a0, a1, rfl⟩
theorem runlist3 {α : Type} {l : List α} (h : l.length = 3) : ∃ a0 a1 a2, l = [a0, a1, a2] := by
  match l, h with
  | [a0, a1, a2], _ => exact ⟨a0, a1, a2, rfl⟩
theorem runlist9 {α : Type} {l : List α} (h : l.length = 9) : ∃ a0 a1 a2 a3 a4 a5 a6 a7 a8, l = [a0, a1, a2, a3, a4, a5, a6, a7, a8] := by
  match l, h with
  | [a0, a1, a2, a3, a4, a5, a6, a7, a8], _ => exact ⟨a0, a1, a2, a3, a4, a5, a6, a7, a8, rfl⟩
theorem cells_run {H : Type} {w : World} {base : Nat} {spare : Nat → Bool} {held : Bool} {enc : TypeId × Value → H} {fuel : Nat} {c0 c1 c2 c3 c4 c5 c6 c7 c8 : Value} {x : DataW H × List MemPlace} (hf : DataW.trod enc Try.prog w base spare held fuel 40 [c0, c1, c2, c3, c4, c5, c6, c7, c8] = some x) :
    ∃ (x0 : Int) (x1 : Int) (x2 : Int) (x3 : Int) (x4 : Int) (x5 : Int) (x6 : Int) (x7 : Int) (x8 : Bool), [c0, c1, c2, c3, c4, c5, c6, c7, c8] = [.int .u64 x0, .int .u64 x1, .int .u64 x2, .int .u64 x3, .int .u64 x4, .int .u64 x5, .int .u64 x6, .int .u64 x7, .bool x8] ∧ (0 ≤ x0 ∧ x0 ≤ 18446744073709551615) ∧ (0 ≤ x1 ∧ x1 ≤ 18446744073709551615) ∧ (0 ≤ x2 ∧ x2 ≤ 18446744073709551615) ∧ (0 ≤ x3 ∧ x3 ≤ 18446744073709551615) ∧ (0 ≤ x4 ∧ x4 ≤ 18446744073709551615) ∧ (0 ≤ x5 ∧ x5 ≤ 18446744073709551615) ∧ (0 ≤ x6 ∧ x6 ≤ 18446744073709551615) ∧ (0 ≤ x7 ∧ x7 ≤ 18446744073709551615) := by
  have k0 : Try.prog.cellsOf 40 = 9 := by kernel_rfl
  have k1 : Try.prog.cellsOf 38 = 4 := by kernel_rfl
  have k2 : Try.prog.cellsOf 22 = 1 := by kernel_rfl
  have k3 : Try.prog.cellsOf 26 = 2 := by kernel_rfl
  have k4 : Try.prog.cellsOf 4 = 1 := by kernel_rfl
  obtain ⟨ys0, m0, _, _, _, hl0, hx0⟩ := DataW.trod_struct Try.underlying40 hf
  obtain ⟨y0_0, y0_1, y0_2, rfl⟩ := runlist3 hl0
  have q0_0 := hx0 0 _ rfl
  have q0_1 := hx0 1 _ rfl
  have q0_2 := hx0 2 _ rfl
  simp [k1, k4] at q0_0 q0_1 q0_2
  obtain ⟨ys1, m1, _, _, _, hl1, hx1⟩ := DataW.trod_struct Try.underlying38 q0_0
  obtain ⟨y1_0, y1_1, y1_2, rfl⟩ := runlist3 hl1
  have q1_0 := hx1 0 _ rfl
  have q1_1 := hx1 1 _ rfl
  have q1_2 := hx1 2 _ rfl
  simp [k2, k3] at q1_0 q1_1 q1_2
  obtain ⟨x0, e0, _, w0⟩ := DataW.trod_int Try.underlying22 q1_0
  obtain ⟨ys2, m2, _, _, _, hl2, hx2⟩ := DataW.trod_struct Try.underlying26 q1_1
  obtain ⟨y2_0, y2_1, rfl⟩ := runlist2 hl2
  have q2_0 := hx2 0 _ rfl
  have q2_1 := hx2 1 _ rfl
  simp [k2] at q2_0 q2_1
  obtain ⟨x1, e1, _, w1⟩ := DataW.trod_int Try.underlying22 q2_0
  obtain ⟨x2, e2, _, w2⟩ := DataW.trod_int Try.underlying22 q2_1
  obtain ⟨x3, e3, _, w3⟩ := DataW.trod_int Try.underlying22 q1_2
  obtain ⟨ys3, m3, _, _, _, hl3, hx3⟩ := DataW.trod_struct Try.underlying38 q0_1
  obtain ⟨y3_0, y3_1, y3_2, rfl⟩ := runlist3 hl3
  have q3_0 := hx3 0 _ rfl
  have q3_1 := hx3 1 _ rfl
  have q3_2 := hx3 2 _ rfl
  simp [k2, k3] at q3_0 q3_1 q3_2
  obtain ⟨x4, e4, _, w4⟩ := DataW.trod_int Try.underlying22 q3_0
  obtain ⟨ys4, m4, _, _, _, hl4, hx4⟩ := DataW.trod_struct Try.underlying26 q3_1
  obtain ⟨y4_0, y4_1, rfl⟩ := runlist2 hl4
  have q4_0 := hx4 0 _ rfl
  have q4_1 := hx4 1 _ rfl
  simp [k2] at q4_0 q4_1
  obtain ⟨x5, e5, _, w5⟩ := DataW.trod_int Try.underlying22 q4_0
  obtain ⟨x6, e6, _, w6⟩ := DataW.trod_int Try.underlying22 q4_1
  obtain ⟨x7, e7, _, w7⟩ := DataW.trod_int Try.underlying22 q3_2
  obtain ⟨x8, e8, _⟩ := DataW.trod_bool Try.underlying4 q0_2
  simp at e0 e1 e2 e3 e4 e5 e6 e7 e8
  subst e0 e1 e2 e3 e4 e5 e6 e7 e8
  exact ⟨x0, x1, x2, x3, x4, x5, x6, x7, x8, rfl, bounds_u64 w0, bounds_u64 w1, bounds_u64 w2, bounds_u64 w3, bounds_u64 w4, bounds_u64 w5, bounds_u64 w6, bounds_u64 w7⟩
set_option maxRecDepth 100000 in
theorem open_run {H : Type} {w : World} {base : Nat} {spare : Nat → Bool} {held : Bool} {enc : TypeId × Value → H} {r : Reach} {b0 : Nat} {v : Value} {d : DataW H} {p : List MemPlace} (hv : Value.okWide Try.prog w r b0 40 v) (h : DataW.Trod enc Try.prog w base spare held 40 v d p) :
    ∃ (x0 : Int) (x1 : Int) (x2 : Int) (x3 : Int) (x4 : Int) (x5 : Int) (x6 : Int) (x7 : Int) (x8 : Bool), v = .agg #[.int .u64 x0, .int .u64 x1, .int .u64 x2, .int .u64 x3, .int .u64 x4, .int .u64 x5, .int .u64 x6, .int .u64 x7, .bool x8] ∧ (0 ≤ x0 ∧ x0 ≤ 18446744073709551615) ∧ (0 ≤ x1 ∧ x1 ≤ 18446744073709551615) ∧ (0 ≤ x2 ∧ x2 ≤ 18446744073709551615) ∧ (0 ≤ x3 ∧ x3 ≤ 18446744073709551615) ∧ (0 ≤ x4 ∧ x4 ≤ 18446744073709551615) ∧ (0 ≤ x5 ∧ x5 ≤ 18446744073709551615) ∧ (0 ≤ x6 ∧ x6 ≤ 18446744073709551615) ∧ (0 ≤ x7 ∧ x7 ≤ 18446744073709551615) := by
  obtain ⟨cs, rfl, hsz⟩ := okWide_struct Try.underlying40 hv
  obtain ⟨l⟩ := cs
  obtain ⟨c0, c1, c2, c3, c4, c5, c6, c7, c8, rfl⟩ := runlist9 (l := l) (hsz.trans (show Try.prog.cellsOf 40 = 9 by kernel_rfl))
  obtain ⟨fuel, hf⟩ := h
  obtain ⟨x0, x1, x2, x3, x4, x5, x6, x7, x8, e, bs⟩ := cells_run (x := (d, p)) (show DataW.trod enc Try.prog w base spare held fuel 40 [c0, c1, c2, c3, c4, c5, c6, c7, c8] = some (d, p) by simpa [Value.cells] using hf)
  simp at e
  obtain ⟨rfl, rfl, rfl, rfl, rfl, rfl, rfl, rfl, rfl⟩ := e
  exact ⟨x0, x1, x2, x3, x4, x5, x6, x7, x8, rfl, bs⟩
set_option maxRecDepth 100000 in
set_option maxHeartbeats 4000000 in
theorem LNT_main (a b m : RN) (x W s t : Int) (w : World) (oa : a.ok) (ob : b.ok) (om : m.ok) (hx : 0 ≤ x ∧ x ≤ 18446744073709551615) (hW : In128 W) (hs : a.at x = s) (s1 : In128 s) (ht : a.reach W = t) (hm : RN.meet a b = m) :
    Calls Try.prog 5 #[runv a, runv b, .agg #[.int .u64 x, .int .u64 (hi W), .int .u64 (lo W)]] w fun e w' => e = .returned (.bool true) ∧ Below w.heap.size w w' := by
  have Hs := hide hs; have Ht := hide ht; have Hm := hide hm; clear hs ht hm
  have e1 := neq s s true s1 s1 (by simp)
  have e2 := rreq m om
  have e3 : (t == t) = true := by simp
  go_enter Try.func5, Try.ntmps5
  go_wp2_with fail
  refine wp_forget (fun v => Below w.heap.size w v ∧ Blk v (w.heap.size) #[.int .u64 a.f.X, .int .u64 (hi (a.f.Y)), .int .u64 (lo (a.f.Y)), .int .u64 a.f.M, .int .u64 a.t.X, .int .u64 (hi (a.t.Y)), .int .u64 (lo (a.t.Y)), .int .u64 a.t.M, .bool a.b] 40 ∧ Blk v (w.heap.size + 1) #[.int .u64 b.f.X, .int .u64 (hi (b.f.Y)), .int .u64 (lo (b.f.Y)), .int .u64 b.f.M, .int .u64 b.t.X, .int .u64 (hi (b.t.Y)), .int .u64 (lo (b.t.Y)), .int .u64 b.t.M, .bool b.b] 40 ∧ Blk v (w.heap.size + 1 + 1) #[.int .u64 x, .int .u64 (hi (W)), .int .u64 (lo (W))] 28) ⟨by (repeat' (first | (with_reducible exact Below.refl _ _) | (with_reducible assumption) | (with_reducible refine below_drewN ?_ _) | (with_reducible refine Below.drew ?_) | (with_reducible refine Below.alloc ?_ ?_ _) | (with_reducible refine Below.setCell ?_ ?_ _) | go_size)), by (repeat' (first | (with_reducible assumption) | (with_reducible exact Blk.alloc_new _ _ _ (by first | rfl | (simp; done) | omega)) | (with_reducible apply Blk.drewN) | (with_reducible apply Blk.drew) | (with_reducible apply Blk.alloc_old) | (with_reducible apply Blk.set_same) | (with_reducible apply Blk.set_other) | (show (_ : Nat) ≠ _; first | omega | (simp; done) | (simp; omega)) | ((simp only [List.setIfInBounds_toArray, List.set_cons_succ, List.set_cons_zero]); (with_reducible exact rfl)) | (with_reducible exact rfl) | (show (_ : Array Value) = _; exact rfl))), by (repeat' (first | (with_reducible assumption) | (with_reducible exact Blk.alloc_new _ _ _ (by first | rfl | (simp; done) | omega)) | (with_reducible apply Blk.drewN) | (with_reducible apply Blk.drew) | (with_reducible apply Blk.alloc_old) | (with_reducible apply Blk.set_same) | (with_reducible apply Blk.set_other) | (show (_ : Nat) ≠ _; first | omega | (simp; done) | (simp; omega)) | ((simp only [List.setIfInBounds_toArray, List.set_cons_succ, List.set_cons_zero]); (with_reducible exact rfl)) | (with_reducible exact rfl) | (show (_ : Array Value) = _; exact rfl))), by (repeat' (first | (with_reducible assumption) | (with_reducible exact Blk.alloc_new _ _ _ (by first | rfl | (simp; done) | omega)) | (with_reducible apply Blk.drewN) | (with_reducible apply Blk.drew) | (with_reducible apply Blk.alloc_old) | (with_reducible apply Blk.set_same) | (with_reducible apply Blk.set_other) | (show (_ : Nat) ≠ _; first | omega | (simp; done) | (simp; omega)) | ((simp only [List.setIfInBounds_toArray, List.set_cons_succ, List.set_cons_zero]); (with_reducible exact rfl)) | (with_reducible exact rfl) | (show (_ : Array Value) = _; exact rfl)))⟩ ?_
  rintro v1 ⟨gv1, Av1, Bv1, Qv1⟩
  have qA1 := blk_calm Av1
  have qB1 := blk_calm Bv1
  have qQ1 := blk_calm Qv1
  refine wp_region_quiet_below (by kernel_rfl) (by kernel_rfl) ?_
  repeat (go_big_quiet_step ((first
      | (go_at_call 22; (with_reducible exact Calls.regrown_of (runat a x s _ oa hx Hs.out)))
      | (go_at_call 16; (with_reducible exact Calls.regrown_of (num06 s _ s1)))
      | (go_at_call 16; (with_reducible exact Calls.regrown_of (num06 W _ hW)))
      | (go_at_call 13; (with_reducible exact Calls.regrown_of (ref06 a _ oa)))
      | (go_at_call 13; (with_reducible exact Calls.regrown_of (ref06 b _ ob)))
      | (go_at_call 13; (with_reducible exact Calls.regrown_of (ref06 m _ om)))
      | (go_at_call 26; (with_reducible exact Calls.regrown_of (rrunat a x s _ oa hx Hs.out)))
      | (go_at_call 25; (with_reducible exact Calls.regrown_of (runreach a W t _ oa hW Ht.out)))
      | (go_at_call 27; (with_reducible exact Calls.regrown_of (rrunreach a W t _ oa hW Ht.out)))
      | (go_at_call 28; (with_reducible exact Calls.regrown_of (meet_any a b m _ oa ob Hm.out)))
      | (go_at_call 29; (with_reducible exact Calls.regrown_of (rmeet_any a b m _ oa ob Hm.out)))
      | (go_at_call 12; (with_reducible exact Calls.regrown_of (hundred06 _))))))
  refine wpQuiet_nil ?_
  intro _ hw'
  obtain ⟨pq, hw''⟩ := hw'
  subst hw''
  have hb1 := below_regrown v1 pq.d pq.os
  generalize Sort.grow (redrawn v1 pq.d) pq.os = w1 at *
  have A1 : Blk w1 (w.heap.size) #[.int .u64 a.f.X, .int .u64 (hi (a.f.Y)), .int .u64 (lo (a.f.Y)), .int .u64 a.f.M, .int .u64 a.t.X, .int .u64 (hi (a.t.Y)), .int .u64 (lo (a.t.Y)), .int .u64 a.t.M, .bool a.b] 40 := Blk.below Av1 hb1 Av1.size
  have B1 : Blk w1 (w.heap.size + 1) #[.int .u64 b.f.X, .int .u64 (hi (b.f.Y)), .int .u64 (lo (b.f.Y)), .int .u64 b.f.M, .int .u64 b.t.X, .int .u64 (hi (b.t.Y)), .int .u64 (lo (b.t.Y)), .int .u64 b.t.M, .bool b.b] 40 := Blk.below Bv1 hb1 Bv1.size
  have Q1 : Blk w1 (w.heap.size + 1 + 1) #[.int .u64 x, .int .u64 (hi (W)), .int .u64 (lo (W))] 28 := Blk.below Qv1 hb1 Qv1.size
  have g1 : Below w.heap.size w w1 := gv1.trans (hb1.mono gv1.size)
  have hz1 : w.heap.size ≤ w1.heap.size := g1.size
  clear hb1 gv1 Av1 qA1 Bv1 qB1 Qv1 qQ1
  replace cA := A1.cell
  replace fA := A1.frozen
  replace zA := A1.size
  replace cB := B1.cell
  replace fB := B1.frozen
  replace zB := B1.size
  replace cQ := Q1.cell
  replace fQ := Q1.frozen
  replace zQ := Q1.size
  go_wp2
  go_ret
  exact ⟨rfl, by (repeat' (first | (with_reducible exact Below.refl _ _) | (with_reducible assumption) | (with_reducible refine below_drewN ?_ _) | (with_reducible refine Below.drew ?_) | (with_reducible refine Below.alloc ?_ ?_ _) | (with_reducible refine Below.setCell ?_ ?_ _) | go_size))⟩
theorem LinesTells_walk (a0 : Int) (ha0 : 0 ≤ a0 ∧ a0 ≤ 18446744073709551615) (a1 : Int) (ha1 : 0 ≤ a1 ∧ a1 ≤ 18446744073709551615) (a2 : Int) (ha2 : 0 ≤ a2 ∧ a2 ≤ 18446744073709551615) (a3 : Int) (ha3 : 0 ≤ a3 ∧ a3 ≤ 18446744073709551615) (a4 : Int) (ha4 : 0 ≤ a4 ∧ a4 ≤ 18446744073709551615) (a5 : Int) (ha5 : 0 ≤ a5 ∧ a5 ≤ 18446744073709551615) (a6 : Int) (ha6 : 0 ≤ a6 ∧ a6 ≤ 18446744073709551615) (a7 : Int) (ha7 : 0 ≤ a7 ∧ a7 ≤ 18446744073709551615) (a8 : Bool) (b0 : Int) (hb0 : 0 ≤ b0 ∧ b0 ≤ 18446744073709551615) (b1 : Int) (hb1 : 0 ≤ b1 ∧ b1 ≤ 18446744073709551615) (b2 : Int) (hb2 : 0 ≤ b2 ∧ b2 ≤ 18446744073709551615) (b3 : Int) (hb3 : 0 ≤ b3 ∧ b3 ≤ 18446744073709551615) (b4 : Int) (hb4 : 0 ≤ b4 ∧ b4 ≤ 18446744073709551615) (b5 : Int) (hb5 : 0 ≤ b5 ∧ b5 ≤ 18446744073709551615) (b6 : Int) (hb6 : 0 ≤ b6 ∧ b6 ≤ 18446744073709551615) (b7 : Int) (hb7 : 0 ≤ b7 ∧ b7 ≤ 18446744073709551615) (b8 : Bool) (x : Int) (hx : 0 ≤ x ∧ x ≤ 18446744073709551615) (c1 : Int) (l1 : 0 ≤ c1 ∧ c1 ≤ 18446744073709551615) (c2 : Int) (l2 : 0 ≤ c2 ∧ c2 ≤ 18446744073709551615) (w : World) :
    Calls Try.prog 5 #[.agg #[.int .u64 a0, .int .u64 a1, .int .u64 a2, .int .u64 a3, .int .u64 a4, .int .u64 a5, .int .u64 a6, .int .u64 a7, .bool a8], .agg #[.int .u64 b0, .int .u64 b1, .int .u64 b2, .int .u64 b3, .int .u64 b4, .int .u64 b5, .int .u64 b6, .int .u64 b7, .bool b8], .agg #[.int .u64 x, .int .u64 c1, .int .u64 c2]] w fun e w' => e = .returned (.bool true) ∧ Below w.heap.size w w' := by
  obtain ⟨Y1, hY1, rfl, rfl⟩ := wv_of ha1 ha2
  obtain ⟨Y2, hY2, rfl, rfl⟩ := wv_of ha5 ha6
  obtain ⟨Y3, hY3, rfl, rfl⟩ := wv_of hb1 hb2
  obtain ⟨Y4, hY4, rfl, rfl⟩ := wv_of hb5 hb6
  obtain ⟨W, hW, rfl, rfl⟩ := wv_of l1 l2
  have oa : RN.ok ⟨⟨a0, Y1, a3⟩, ⟨a4, Y2, a7⟩, a8⟩ := ⟨⟨ha0, hY1, ha3⟩, ha4, hY2, ha7⟩
  have ob : RN.ok ⟨⟨b0, Y3, b3⟩, ⟨b4, Y4, b7⟩, b8⟩ := ⟨⟨hb0, hY3, hb3⟩, hb4, hY4, hb7⟩
  exact LNT_main ⟨⟨a0, Y1, a3⟩, ⟨a4, Y2, a7⟩, a8⟩ ⟨⟨b0, Y3, b3⟩, ⟨b4, Y4, b7⟩, b8⟩ _ x W _ _ w oa ob (RN.meet_ok oa ob) hx hW rfl (RN.at_in oa x) rfl rfl
namespace linesTellsDone
theorem own : ownKnob Try.prog.godebug = none := by kernel_rfl
theorem laidOut : laidOutB Try.prog = true := by kernel_rfl
set_option maxRecDepth 100000 in
theorem lifted (os : Os) (started : os.Started) (H : Type) (enc : TypeId × Value → H) :
    ReturnsInHanded {} Try.checked os 5 .any (Rows.linesTellsSpec.pre6 enc Try.prog Try.f5 Rows.linesTellsRow.domain false) (Rows.linesTellsSpec.post enc Try.prog Try.f5 false true false false) := by
  refine returnsInHanded_of_change (C := Try.checked) own started (by kernel_rfl) Try.func5
    (ChangeSpec.witness6 (enc := enc) (C := Try.checked) false ⟨#[], #[.agg #[.int .u64 0, .int .u64 0, .int .u64 0, .int .u64 0, .int .u64 0, .int .u64 0, .int .u64 0, .int .u64 0, .bool false], .agg #[.int .u64 0, .int .u64 0, .int .u64 0, .int .u64 0, .int .u64 0, .int .u64 0, .int .u64 0, .int .u64 0, .bool false], .agg #[.int .u64 0, .int .u64 0, .int .u64 0]], []⟩ 8 (by kernel_rfl) (by kernel_rfl) (by kernel_rfl) (by kernel_rfl)) ?_
  intro W base args ds gs before hval0 hW hcnd _
  have hval : ∀ (j : Nat) t v, Try.f5.params[j]? = some t → args[j]? = some v → Value.okWide Try.prog W .any base t v := hval0
  have hW' := hW
  obtain ⟨p, q, hA0, hV, rfl, hfz, hnd⟩ := hW
  have hA : DataW.TrodAll enc Try.prog W 0 (fun _ => true) true Try.f5.params.toList args.toList ds p := hA0
  rw [Try.params5] at hA hval
  obtain ⟨v0, vs0, d0, ds0, p0, q0, hargs, rfl, rfl, h0, r0⟩ := trodAll_cons hA
  obtain ⟨v1, vs1, d1, ds1, p1, q1, rfl, rfl, rfl, h1, r1⟩ := trodAll_cons r0
  obtain ⟨v2, vs2, d2, ds2, p2, q2, rfl, rfl, rfl, h2, r2⟩ := trodAll_cons r1
  obtain ⟨rfl, rfl, rfl⟩ := trodAll_nil r2
  obtain rfl : args = #[v0, v1, v2] := by cases args; simp_all
  obtain ⟨rfl, rfl⟩ := trodVars_none hV
  have k0 := h0
  have lt0 : ∀ x ∈ p0, x.block < W.heap.size := by obtain ⟨m, hm⟩ := k0; exact DataW.trod_lt m _ _ _ hm
  obtain ⟨a0_0, a0_1, a0_2, a0_3, a0_4, a0_5, a0_6, a0_7, a0_8, rfl, b0_0, b0_1, b0_2, b0_3, b0_4, b0_5, b0_6, b0_7⟩ := open_run (hval 0 40 v0 rfl rfl) h0
  have k1 := h1
  have lt1 : ∀ x ∈ p1, x.block < W.heap.size := by obtain ⟨m, hm⟩ := k1; exact DataW.trod_lt m _ _ _ hm
  obtain ⟨a1_0, a1_1, a1_2, a1_3, a1_4, a1_5, a1_6, a1_7, a1_8, rfl, b1_0, b1_1, b1_2, b1_3, b1_4, b1_5, b1_6, b1_7⟩ := open_run (hval 1 40 v1 rfl rfl) h1
  have k2 := h2
  have lt2 : ∀ x ∈ p2, x.block < W.heap.size := by obtain ⟨m, hm⟩ := k2; exact DataW.trod_lt m _ _ _ hm
  obtain ⟨a2_0, a2_1, a2_2, rfl, b2_0, b2_1, b2_2⟩ := open_from6 (hval 2 28 v2 rfl rfl) h2
  clear hA0 hval0
  refine (LinesTells_walk a0_0 b0_0 a0_1 b0_1 a0_2 b0_2 a0_3 b0_3 a0_4 b0_4 a0_5 b0_5 a0_6 b0_6 a0_7 b0_7 a0_8 a1_0 b1_0 a1_1 b1_1 a1_2 b1_2 a1_3 b1_3 a1_4 b1_4 a1_5 b1_5 a1_6 b1_6 a1_7 b1_7 a1_8 a2_0 b2_0 a2_1 b2_1 a2_2 b2_2 W).mono fun e W' ⟨he, bel⟩ => ?_
  subst he
  exact ⟨_, rfl, _, _, _, [], _, [], hW', trodAll_mk1 (shut_bool Try.underlying4 _), (trodAll_cons_mk (Below.trod laidOut (by kernel_rfl) (of_decide_eq_true (by kernel_rfl)) k0 bel lt0) (trodAll_cons_mk (Below.trod laidOut (by kernel_rfl) (of_decide_eq_true (by kernel_rfl)) k1 bel lt1) (trodAll_cons_mk (Below.trod laidOut (by kernel_rfl) (of_decide_eq_true (by kernel_rfl)) k2 bel lt2) trodAll_mk0))), rfl, bel.frame _, fun h => by cases h⟩
theorem over : Rows.linesTellsRow.holds Try.pinned (OpenSpec.ofChange Rows.linesTellsSpec) :=
  OpenClaim.holds_of_wide 5 Try.f5 rfl rfl rfl rfl rfl rfl rfl ⟨rfl, rfl, rfl, rfl, rfl⟩ rfl rfl rfl rfl rfl (by kernel_rfl) Try.func5 (by kernel_rfl)
    (of_decide_eq_true (by kernel_rfl)) (by unfold Func.isWrapper; first | (rw [if_pos (by decide +kernel)]; kernel_rfl) | (rw [if_neg (by decide +kernel)]; exact ⟨rfl, rfl⟩))
    (fun os started H enc _ => lifted os started H enc)
end linesTellsDone
theorem LinesTells_holds : Rows.LinesTellsSaid := linesTellsDone.over

end Go.Proofs.Ytaaoadbcgnedkaa
