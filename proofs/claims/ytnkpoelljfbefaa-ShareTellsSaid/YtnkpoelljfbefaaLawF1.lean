/-
  The statement ShareTells: what any wake, and any bytes, make of any class's share. Conditions: none.
-/
import Derived.Test.YtnkpoelljfbefaaShareT
import Derived.Test.YtnkpoelljfbefaaFrame
import Derived.Deep.Slices
namespace Go.Proofs.Ytnkpoelljfbefaa
open Go.ChangeShapes Go.WideShapes Go.ChangeAt Go.RowKit
open Go.Sort
set_option linter.unusedVariables false
set_option linter.unusedSimpArgs false
theorem childlist2 {α : Type} {l : List α} (h : l.length = 2) : ∃ a0 a1, l = [a0, a1] := by
  match l, h with
  | [a0, a1], _ => exact ⟨a0, a1, rfl⟩
theorem childlist3 {α : Type} {l : List α} (h : l.length = 3) : ∃ a0 a1 a2, l = [a0, a1, a2] := by
  match l, h with
  | [a0, a1, a2], _ => exact ⟨a0, a1, a2, rfl⟩
theorem childlist11 {α : Type} {l : List α} (h : l.length = 11) : ∃ a0 a1 a2 a3 a4 a5 a6 a7 a8 a9 a10, l = [a0, a1, a2, a3, a4, a5, a6, a7, a8, a9, a10] := by
  match l, h with
  | [a0, a1, a2, a3, a4, a5, a6, a7, a8, a9, a10], _ => exact ⟨a0, a1, a2, a3, a4, a5, a6, a7, a8, a9, a10, rfl⟩
theorem cells_child {H : Type} {w : World} {base : Nat} {spare : Nat → Bool} {held : Bool} {enc : TypeId × Value → H} {fuel : Nat} {c0 c1 c2 c3 c4 c5 c6 c7 c8 c9 c10 : Value} {x : DataW H × List MemPlace} (hf : DataW.trod enc Try.prog w base spare held fuel 30 [c0, c1, c2, c3, c4, c5, c6, c7, c8, c9, c10] = some x) :
    ∃ (x0 : Bool) (x1 : Int) (x2 : Int) (x3 : Int) (x4 : Int) (x5 : Int) (x6 : Int) (x7 : Int) (x8 : Int) (x9 : Bool) (x10 : Int), [c0, c1, c2, c3, c4, c5, c6, c7, c8, c9, c10] = [.bool x0, .int .u64 x1, .int .u64 x2, .int .u64 x3, .int .u64 x4, .int .u64 x5, .int .u64 x6, .int .u64 x7, .int .u64 x8, .bool x9, .int .u64 x10] ∧ (0 ≤ x1 ∧ x1 ≤ 18446744073709551615) ∧ (0 ≤ x2 ∧ x2 ≤ 18446744073709551615) ∧ (0 ≤ x3 ∧ x3 ≤ 18446744073709551615) ∧ (0 ≤ x4 ∧ x4 ≤ 18446744073709551615) ∧ (0 ≤ x5 ∧ x5 ≤ 18446744073709551615) ∧ (0 ≤ x6 ∧ x6 ≤ 18446744073709551615) ∧ (0 ≤ x7 ∧ x7 ≤ 18446744073709551615) ∧ (0 ≤ x8 ∧ x8 ≤ 18446744073709551615) ∧ (0 ≤ x10 ∧ x10 ≤ 18446744073709551615) := by
  have k0 : Try.prog.cellsOf 30 = 11 := by kernel_rfl
  have k1 : Try.prog.cellsOf 4 = 1 := by kernel_rfl
  have k2 : Try.prog.cellsOf 28 = 9 := by kernel_rfl
  have k3 : Try.prog.cellsOf 26 = 4 := by kernel_rfl
  have k4 : Try.prog.cellsOf 22 = 1 := by kernel_rfl
  have k5 : Try.prog.cellsOf 24 = 2 := by kernel_rfl
  obtain ⟨ys0, m0, _, _, _, hl0, hx0⟩ := DataW.trod_struct Try.underlying30 hf
  obtain ⟨y0_0, y0_1, y0_2, rfl⟩ := childlist3 hl0
  have q0_0 := hx0 0 _ rfl
  have q0_1 := hx0 1 _ rfl
  have q0_2 := hx0 2 _ rfl
  simp [k1, k2, k4] at q0_0 q0_1 q0_2
  obtain ⟨x0, e0, _⟩ := DataW.trod_bool Try.underlying4 q0_0
  obtain ⟨ys1, m1, _, _, _, hl1, hx1⟩ := DataW.trod_struct Try.underlying28 q0_1
  obtain ⟨y1_0, y1_1, y1_2, rfl⟩ := childlist3 hl1
  have q1_0 := hx1 0 _ rfl
  have q1_1 := hx1 1 _ rfl
  have q1_2 := hx1 2 _ rfl
  simp [k1, k3] at q1_0 q1_1 q1_2
  obtain ⟨ys2, m2, _, _, _, hl2, hx2⟩ := DataW.trod_struct Try.underlying26 q1_0
  obtain ⟨y2_0, y2_1, y2_2, rfl⟩ := childlist3 hl2
  have q2_0 := hx2 0 _ rfl
  have q2_1 := hx2 1 _ rfl
  have q2_2 := hx2 2 _ rfl
  simp [k4, k5] at q2_0 q2_1 q2_2
  obtain ⟨x1, e1, _, w1⟩ := DataW.trod_int Try.underlying22 q2_0
  obtain ⟨ys3, m3, _, _, _, hl3, hx3⟩ := DataW.trod_struct Try.underlying24 q2_1
  obtain ⟨y3_0, y3_1, rfl⟩ := childlist2 hl3
  have q3_0 := hx3 0 _ rfl
  have q3_1 := hx3 1 _ rfl
  simp [k4] at q3_0 q3_1
  obtain ⟨x2, e2, _, w2⟩ := DataW.trod_int Try.underlying22 q3_0
  obtain ⟨x3, e3, _, w3⟩ := DataW.trod_int Try.underlying22 q3_1
  obtain ⟨x4, e4, _, w4⟩ := DataW.trod_int Try.underlying22 q2_2
  obtain ⟨ys4, m4, _, _, _, hl4, hx4⟩ := DataW.trod_struct Try.underlying26 q1_1
  obtain ⟨y4_0, y4_1, y4_2, rfl⟩ := childlist3 hl4
  have q4_0 := hx4 0 _ rfl
  have q4_1 := hx4 1 _ rfl
  have q4_2 := hx4 2 _ rfl
  simp [k4, k5] at q4_0 q4_1 q4_2
  obtain ⟨x5, e5, _, w5⟩ := DataW.trod_int Try.underlying22 q4_0
  obtain ⟨ys5, m5, _, _, _, hl5, hx5⟩ := DataW.trod_struct Try.underlying24 q4_1
  obtain ⟨y5_0, y5_1, rfl⟩ := childlist2 hl5
  have q5_0 := hx5 0 _ rfl
  have q5_1 := hx5 1 _ rfl
  simp [k4] at q5_0 q5_1
  obtain ⟨x6, e6, _, w6⟩ := DataW.trod_int Try.underlying22 q5_0
  obtain ⟨x7, e7, _, w7⟩ := DataW.trod_int Try.underlying22 q5_1
  obtain ⟨x8, e8, _, w8⟩ := DataW.trod_int Try.underlying22 q4_2
  obtain ⟨x9, e9, _⟩ := DataW.trod_bool Try.underlying4 q1_2
  obtain ⟨x10, e10, _, w10⟩ := DataW.trod_int Try.underlying22 q0_2
  simp at e0 e1 e2 e3 e4 e5 e6 e7 e8 e9 e10
  subst e0 e1 e2 e3 e4 e5 e6 e7 e8 e9 e10
  exact ⟨x0, x1, x2, x3, x4, x5, x6, x7, x8, x9, x10, rfl, bounds_u64 w1, bounds_u64 w2, bounds_u64 w3, bounds_u64 w4, bounds_u64 w5, bounds_u64 w6, bounds_u64 w7, bounds_u64 w8, bounds_u64 w10⟩
set_option maxRecDepth 100000 in
theorem open_child {H : Type} {w : World} {base : Nat} {spare : Nat → Bool} {held : Bool} {enc : TypeId × Value → H} {r : Reach} {b0 : Nat} {v : Value} {d : DataW H} {p : List MemPlace} (hv : Value.okWide Try.prog w r b0 30 v) (h : DataW.Trod enc Try.prog w base spare held 30 v d p) :
    ∃ (x0 : Bool) (x1 : Int) (x2 : Int) (x3 : Int) (x4 : Int) (x5 : Int) (x6 : Int) (x7 : Int) (x8 : Int) (x9 : Bool) (x10 : Int), v = .agg #[.bool x0, .int .u64 x1, .int .u64 x2, .int .u64 x3, .int .u64 x4, .int .u64 x5, .int .u64 x6, .int .u64 x7, .int .u64 x8, .bool x9, .int .u64 x10] ∧ (0 ≤ x1 ∧ x1 ≤ 18446744073709551615) ∧ (0 ≤ x2 ∧ x2 ≤ 18446744073709551615) ∧ (0 ≤ x3 ∧ x3 ≤ 18446744073709551615) ∧ (0 ≤ x4 ∧ x4 ≤ 18446744073709551615) ∧ (0 ≤ x5 ∧ x5 ≤ 18446744073709551615) ∧ (0 ≤ x6 ∧ x6 ≤ 18446744073709551615) ∧ (0 ≤ x7 ∧ x7 ≤ 18446744073709551615) ∧ (0 ≤ x8 ∧ x8 ≤ 18446744073709551615) ∧ (0 ≤ x10 ∧ x10 ≤ 18446744073709551615) := by
  obtain ⟨cs, rfl, hsz⟩ := okWide_struct Try.underlying30 hv
  obtain ⟨l⟩ := cs
  obtain ⟨c0, c1, c2, c3, c4, c5, c6, c7, c8, c9, c10, rfl⟩ := childlist11 (l := l) (hsz.trans (show Try.prog.cellsOf 30 = 11 by kernel_rfl))
  obtain ⟨fuel, hf⟩ := h
  obtain ⟨x0, x1, x2, x3, x4, x5, x6, x7, x8, x9, x10, e, bs⟩ := cells_child (x := (d, p)) (show DataW.trod enc Try.prog w base spare held fuel 30 [c0, c1, c2, c3, c4, c5, c6, c7, c8, c9, c10] = some (d, p) by simpa [Value.cells] using hf)
  simp at e
  obtain ⟨rfl, rfl, rfl, rfl, rfl, rfl, rfl, rfl, rfl, rfl, rfl⟩ := e
  exact ⟨x0, x1, x2, x3, x4, x5, x6, x7, x8, x9, x10, rfl, bs⟩
set_option maxRecDepth 100000 in
set_option maxHeartbeats 4000000 in
theorem SHT_main (c u v : CH) (m d n q0 q1 T : Int) (w : World) (hm : 0 ≤ m ∧ m ≤ 18446744073709551615) (hd : 0 ≤ d ∧ d ≤ 18446744073709551615) (hn : 0 ≤ n ∧ n ≤ 18446744073709551615) (hl : 0 ≤ q0 ∧ q0 ≤ 9223372036854775808) (hp : 0 ≤ q1 ∧ q1 ≤ 18446744073709551615) (oc : c.r.ok) (ou : u.r.ok) (ov : v.r.ok) (hu : c.wake m d n q0 q1 = u) (hv : c.took q1 = v) (hT : c.r.time q1 = T) :
    Calls Try.prog 3 #[chv c, .agg #[.int .u64 m, .int .u64 d, .int .u64 n], .agg #[.int .u64 q0, .int .u64 q1]] w fun e w' => e = .returned (.bool true) ∧ Below w.heap.size w w' := by
  have Hu := hide hu; have Hv := hide hv; have HT := hide hT; clear hu hv hT
  have d1 : decide (9223372036854775808 < q0) = false := decide_eq_false (by omega)
  have e2 := rcheq u ou
  have e3 := rcheq v ov
  have e4 : (T == T) = true := by simp
  go_enter Try.func3, Try.ntmps3
  go_wp2_with fail
  refine (ref21 c _ oc).mono ?_
  rintro e w1 ⟨rfl, hb1⟩
  have A1 : Blk w1 (w.heap.size) #[.bool c.has, .int .u64 c.r.f.X, .int .u64 (hi (c.r.f.Y)), .int .u64 (lo (c.r.f.Y)), .int .u64 c.r.f.M, .int .u64 c.r.t.X, .int .u64 (hi (c.r.t.Y)), .int .u64 (lo (c.r.t.Y)), .int .u64 c.r.t.M, .bool c.r.b, .int .u64 c.t] 30 := Blk.below (by (repeat' (first | (with_reducible (first | assumption | exact Blk.alloc_new _ _ _ (by first | rfl | (simp; done) | omega) | apply Blk.drewN | apply Blk.drew | apply Blk.alloc_old | apply Blk.set_same | apply Blk.set_other)) | (show (_ : Nat) ≠ _; first | omega | (simp; done) | (simp; omega)) | ((simp only [List.setIfInBounds_toArray, List.set_cons_succ, List.set_cons_zero]); (with_reducible exact rfl)) | (with_reducible exact rfl) | (show (_ : Array Value) = _; exact rfl)))) hb1 (by first | (simp; done) | omega | (simp; omega))
  have C1 : Blk w1 (w.heap.size + 1) #[.int .u64 m, .int .u64 d, .int .u64 n] 32 := Blk.below (by (repeat' (first | (with_reducible (first | assumption | exact Blk.alloc_new _ _ _ (by first | rfl | (simp; done) | omega) | apply Blk.drewN | apply Blk.drew | apply Blk.alloc_old | apply Blk.set_same | apply Blk.set_other)) | (show (_ : Nat) ≠ _; first | omega | (simp; done) | (simp; omega)) | ((simp only [List.setIfInBounds_toArray, List.set_cons_succ, List.set_cons_zero]); (with_reducible exact rfl)) | (with_reducible exact rfl) | (show (_ : Array Value) = _; exact rfl)))) hb1 (by first | (simp; done) | omega | (simp; omega))
  have Q1 : Blk w1 (w.heap.size + 1 + 1) #[.int .u64 q0, .int .u64 q1] 33 := Blk.below (by (repeat' (first | (with_reducible (first | assumption | exact Blk.alloc_new _ _ _ (by first | rfl | (simp; done) | omega) | apply Blk.drewN | apply Blk.drew | apply Blk.alloc_old | apply Blk.set_same | apply Blk.set_other)) | (show (_ : Nat) ≠ _; first | omega | (simp; done) | (simp; omega)) | ((simp only [List.setIfInBounds_toArray, List.set_cons_succ, List.set_cons_zero]); (with_reducible exact rfl)) | (with_reducible exact rfl) | (show (_ : Array Value) = _; exact rfl)))) hb1 (by first | (simp; done) | omega | (simp; omega))
  have g1 : Below w.heap.size w w1 := by refine Below.trans ?_ (hb1.mono ?_) <;> (repeat' (first | (with_reducible (first | exact Below.refl _ _ | assumption | refine below_drewN ?_ _ | refine Below.drew ?_ | refine Below.alloc ?_ ?_ _ | refine Below.setCell ?_ ?_ _)) | go_size))
  have hz1 := hb1.size
  (try simp at hz1)
  clear hb1
  replace cA := A1.cell
  replace fA := A1.frozen
  replace zA := A1.size
  replace cC := C1.cell
  replace fC := C1.frozen
  replace zC := C1.size
  replace cQ := Q1.cell
  replace fQ := Q1.frozen
  replace zQ := Q1.size
  go_wp2_with fail
  refine wp_forget (fun v => Below w.heap.size w v ∧ Blk v (w.heap.size) #[.bool c.has, .int .u64 c.r.f.X, .int .u64 (hi (c.r.f.Y)), .int .u64 (lo (c.r.f.Y)), .int .u64 c.r.f.M, .int .u64 c.r.t.X, .int .u64 (hi (c.r.t.Y)), .int .u64 (lo (c.r.t.Y)), .int .u64 c.r.t.M, .bool c.r.b, .int .u64 c.t] 30 ∧ Blk v (w.heap.size + 1) #[.int .u64 m, .int .u64 d, .int .u64 n] 32 ∧ Blk v (w.heap.size + 1 + 1) #[.int .u64 q0, .int .u64 q1] 33 ∧ Blk v (w1.heap.size) #[.bool c.has, .int .u64 c.r.f.X, .int .u64 (dg0 (c.r.f.Y)), .int .u64 (dg1 (c.r.f.Y)), .int .u64 (dg2 (c.r.f.Y)), .int .u64 (dg3 (c.r.f.Y)), .int .u64 c.r.f.M, .int .u64 c.r.t.X, .int .u64 (dg0 (c.r.t.Y)), .int .u64 (dg1 (c.r.t.Y)), .int .u64 (dg2 (c.r.t.Y)), .int .u64 (dg3 (c.r.t.Y)), .int .u64 c.r.t.M, .bool c.r.b, .int .u64 c.t] 42) ⟨by (repeat' (first | (with_reducible (first | exact Below.refl _ _ | assumption | refine below_drewN ?_ _ | refine Below.drew ?_ | refine Below.alloc ?_ ?_ _ | refine Below.setCell ?_ ?_ _)) | go_size)), by (repeat' (first | (with_reducible (first | assumption | exact Blk.alloc_new _ _ _ (by first | rfl | (simp; done) | omega) | apply Blk.drewN | apply Blk.drew | apply Blk.alloc_old | apply Blk.set_same | apply Blk.set_other)) | (show (_ : Nat) ≠ _; first | omega | (simp; done) | (simp; omega)) | ((simp only [List.setIfInBounds_toArray, List.set_cons_succ, List.set_cons_zero]); (with_reducible exact rfl)) | (with_reducible exact rfl) | (show (_ : Array Value) = _; exact rfl))), by (repeat' (first | (with_reducible (first | assumption | exact Blk.alloc_new _ _ _ (by first | rfl | (simp; done) | omega) | apply Blk.drewN | apply Blk.drew | apply Blk.alloc_old | apply Blk.set_same | apply Blk.set_other)) | (show (_ : Nat) ≠ _; first | omega | (simp; done) | (simp; omega)) | ((simp only [List.setIfInBounds_toArray, List.set_cons_succ, List.set_cons_zero]); (with_reducible exact rfl)) | (with_reducible exact rfl) | (show (_ : Array Value) = _; exact rfl))), by (repeat' (first | (with_reducible (first | assumption | exact Blk.alloc_new _ _ _ (by first | rfl | (simp; done) | omega) | apply Blk.drewN | apply Blk.drew | apply Blk.alloc_old | apply Blk.set_same | apply Blk.set_other)) | (show (_ : Nat) ≠ _; first | omega | (simp; done) | (simp; omega)) | ((simp only [List.setIfInBounds_toArray, List.set_cons_succ, List.set_cons_zero]); (with_reducible exact rfl)) | (with_reducible exact rfl) | (show (_ : Array Value) = _; exact rfl))), by (repeat' (first | (with_reducible (first | assumption | exact Blk.alloc_new _ _ _ (by first | rfl | (simp; done) | omega) | apply Blk.drewN | apply Blk.drew | apply Blk.alloc_old | apply Blk.set_same | apply Blk.set_other)) | (show (_ : Nat) ≠ _; first | omega | (simp; done) | (simp; omega)) | ((simp only [List.setIfInBounds_toArray, List.set_cons_succ, List.set_cons_zero]); (with_reducible exact rfl)) | (with_reducible exact rfl) | (show (_ : Array Value) = _; exact rfl)))⟩ ?_
  rintro v2 ⟨gv2, Av2, Cv2, Qv2, Wv2⟩
  have qA2 := blk_calm Av2
  have qC2 := blk_calm Cv2
  have qQ2 := blk_calm Qv2
  have qW2 := blk_calm Wv2
  refine wp_region_quiet_below (by kernel_rfl) (by kernel_rfl) ?_
  repeat (go_big_quiet_step ((first
      | (go_at_call 11; (with_reducible exact Calls.regrown_of (wake_any c u m d n q0 q1 _ hm hd hn hl hp oc Hu.out)))
      | (go_at_call 12; (with_reducible exact Calls.regrown_of (rwake_any c u m d n q0 q1 _ hm hd hn hl hp oc Hu.out)))
      | (go_at_call 10; (with_reducible exact Calls.regrown_of (ref21 u _ ou)))
      | (go_at_call 10; (with_reducible exact Calls.regrown_of (ref21 v _ ov)))
      | (go_at_call 13; (with_reducible exact Calls.regrown_of (took_any c v q1 _ hp oc Hv.out)))
      | (go_at_call 14; (with_reducible exact Calls.regrown_of (rtook_any c v q1 _ hp oc Hv.out)))
      | (go_at_call 15; (with_reducible exact Calls.regrown_of (share_time c.r q1 T _ oc hp HT.out)))
      | (go_at_call 16; (with_reducible exact Calls.regrown_of (ref_time c.r q1 T _ oc hp HT.out)))
      | (go_at_call 9; (with_reducible exact Calls.regrown_of (seven_true _))))))
  refine wpQuiet_nil ?_
  intro _ hw'
  obtain ⟨pq, hw''⟩ := hw'
  subst hw''
  have hb2 := below_regrown v2 pq.d pq.os
  generalize Sort.grow (redrawn v2 pq.d) pq.os = w2 at *
  have A2 : Blk w2 (w.heap.size) #[.bool c.has, .int .u64 c.r.f.X, .int .u64 (hi (c.r.f.Y)), .int .u64 (lo (c.r.f.Y)), .int .u64 c.r.f.M, .int .u64 c.r.t.X, .int .u64 (hi (c.r.t.Y)), .int .u64 (lo (c.r.t.Y)), .int .u64 c.r.t.M, .bool c.r.b, .int .u64 c.t] 30 := Blk.below Av2 hb2 Av2.size
  have C2 : Blk w2 (w.heap.size + 1) #[.int .u64 m, .int .u64 d, .int .u64 n] 32 := Blk.below Cv2 hb2 Cv2.size
  have Q2 : Blk w2 (w.heap.size + 1 + 1) #[.int .u64 q0, .int .u64 q1] 33 := Blk.below Qv2 hb2 Qv2.size
  have W2 : Blk w2 (w1.heap.size) #[.bool c.has, .int .u64 c.r.f.X, .int .u64 (dg0 (c.r.f.Y)), .int .u64 (dg1 (c.r.f.Y)), .int .u64 (dg2 (c.r.f.Y)), .int .u64 (dg3 (c.r.f.Y)), .int .u64 c.r.f.M, .int .u64 c.r.t.X, .int .u64 (dg0 (c.r.t.Y)), .int .u64 (dg1 (c.r.t.Y)), .int .u64 (dg2 (c.r.t.Y)), .int .u64 (dg3 (c.r.t.Y)), .int .u64 c.r.t.M, .bool c.r.b, .int .u64 c.t] 42 := Blk.below Wv2 hb2 Wv2.size
  have g2 : Below w.heap.size w w2 := gv2.trans (hb2.mono gv2.size)
  have hz2 : w.heap.size ≤ w2.heap.size := g2.size
  clear hb2 gv2 Av2 qA2 Cv2 qC2 Qv2 qQ2 Wv2 qW2
  replace cA := A2.cell
  replace fA := A2.frozen
  replace zA := A2.size
  replace cC := C2.cell
  replace fC := C2.frozen
  replace zC := C2.size
  replace cQ := Q2.cell
  replace fQ := Q2.frozen
  replace zQ := Q2.size
  replace cW := W2.cell
  replace fW := W2.frozen
  replace zW := W2.size
  go_wp2
  go_ret
  exact ⟨rfl, by (repeat' (first | (with_reducible (first | exact Below.refl _ _ | assumption | refine below_drewN ?_ _ | refine Below.drew ?_ | refine Below.alloc ?_ ?_ _ | refine Below.setCell ?_ ?_ _)) | go_size))⟩
theorem SHT_out (c : CH) (m d n q0 q1 : Int) (w : World) (hl : 9223372036854775808 < q0) :
    Calls Try.prog 3 #[chv c, .agg #[.int .u64 m, .int .u64 d, .int .u64 n], .agg #[.int .u64 q0, .int .u64 q1]] w fun e w' => e = .returned (.bool true) ∧ Below w.heap.size w w' := by
  have d1 : decide (9223372036854775808 < q0) = true := decide_eq_true hl
  go_enter Try.func3, Try.ntmps3
  go_wp2_with fail
  refine (seven_true _).mono ?_
  rintro e w1 ⟨rfl, hb1⟩
  have g1 : Below w.heap.size w w1 := by refine Below.trans ?_ (hb1.mono ?_) <;> (repeat' (first | (with_reducible (first | exact Below.refl _ _ | assumption | refine below_drewN ?_ _ | refine Below.drew ?_ | refine Below.alloc ?_ ?_ _ | refine Below.setCell ?_ ?_ _)) | go_size))
  have hz1 := hb1.size
  (try simp at hz1)
  clear hb1
  go_wp2
  go_ret
  exact ⟨rfl, by (repeat' (first | (with_reducible (first | exact Below.refl _ _ | assumption | refine below_drewN ?_ _ | refine Below.drew ?_ | refine Below.alloc ?_ ?_ _ | refine Below.setCell ?_ ?_ _)) | go_size))⟩
theorem CH.wake_ok {c : CH} {m d n low p : Int} (hm : 0 ≤ m ∧ m ≤ 18446744073709551615) (hd : 0 ≤ d) (hn : 0 ≤ n ∧ n ≤ 18446744073709551615) (hl : 0 ≤ low ∧ low ≤ 9223372036854775808) (hp : 0 ≤ p ∧ p ≤ 18446744073709551615) (oc : c.r.ok) : (c.wake m d n low p).r.ok := by
  have os := RN.start_ok (m := m) (d := d) (n := n) (x := low) (y := p * 65536) hm hd hn hl (un_in hp)
  show RN.ok (if c.has then RN.meet c.r (RN.start m d n low (p * 65536)) else RN.start m d n low (p * 65536))
  split
  · exact RN.meet_ok oc os
  · exact os
theorem CH.took_ok {c : CH} {p : Int} (oc : c.r.ok) : (c.took p).r.ok := by
  unfold CH.took; split <;> exact oc
theorem ShareTells_walk (a0 : Bool) (a1 : Int) (ha1 : 0 ≤ a1 ∧ a1 ≤ 18446744073709551615) (a2 : Int) (ha2 : 0 ≤ a2 ∧ a2 ≤ 18446744073709551615) (a3 : Int) (ha3 : 0 ≤ a3 ∧ a3 ≤ 18446744073709551615) (a4 : Int) (ha4 : 0 ≤ a4 ∧ a4 ≤ 18446744073709551615) (a5 : Int) (ha5 : 0 ≤ a5 ∧ a5 ≤ 18446744073709551615) (a6 : Int) (ha6 : 0 ≤ a6 ∧ a6 ≤ 18446744073709551615) (a7 : Int) (ha7 : 0 ≤ a7 ∧ a7 ≤ 18446744073709551615) (a8 : Int) (ha8 : 0 ≤ a8 ∧ a8 ≤ 18446744073709551615) (a9 : Bool) (a10 : Int) (ha10 : 0 ≤ a10 ∧ a10 ≤ 18446744073709551615) (m : Int) (hm : 0 ≤ m ∧ m ≤ 18446744073709551615) (d : Int) (hd : 0 ≤ d ∧ d ≤ 18446744073709551615) (n : Int) (hn : 0 ≤ n ∧ n ≤ 18446744073709551615) (q0 : Int) (hq0 : 0 ≤ q0 ∧ q0 ≤ 18446744073709551615) (q1 : Int) (hq1 : 0 ≤ q1 ∧ q1 ≤ 18446744073709551615) (w : World) :
    Calls Try.prog 3 #[.agg #[.bool a0, .int .u64 a1, .int .u64 a2, .int .u64 a3, .int .u64 a4, .int .u64 a5, .int .u64 a6, .int .u64 a7, .int .u64 a8, .bool a9, .int .u64 a10], .agg #[.int .u64 m, .int .u64 d, .int .u64 n], .agg #[.int .u64 q0, .int .u64 q1]] w fun e w' => e = .returned (.bool true) ∧ Below w.heap.size w w' := by
  obtain ⟨Y1, hY1, rfl, rfl⟩ := wv_of ha2 ha3
  obtain ⟨Y2, hY2, rfl, rfl⟩ := wv_of ha6 ha7
  have oc : RN.ok ⟨⟨a1, Y1, a4⟩, ⟨a5, Y2, a8⟩, a9⟩ := ⟨⟨ha1, hY1, ha4⟩, ha5, hY2, ha8⟩
  by_cases h : 9223372036854775808 < q0
  · exact SHT_out ⟨a0, ⟨⟨a1, Y1, a4⟩, ⟨a5, Y2, a8⟩, a9⟩, a10⟩ m d n q0 q1 w h
  · refine SHT_main ⟨a0, ⟨⟨a1, Y1, a4⟩, ⟨a5, Y2, a8⟩, a9⟩, a10⟩ _ _ m d n q0 q1 _ w hm hd hn ⟨hq0.1, by omega⟩ hq1 oc (CH.wake_ok hm hd.1 hn ⟨hq0.1, by omega⟩ hq1 oc) (CH.took_ok oc) rfl rfl rfl
namespace shareTellsDone
theorem own : ownKnob Try.prog.godebug = none := by kernel_rfl
theorem laidOut : laidOutB Try.prog = true := by kernel_rfl
set_option maxRecDepth 100000 in
theorem lifted (os : Os) (started : os.Started) (H : Type) (enc : TypeId × Value → H) :
    ReturnsInHanded {} Try.checked os 3 .any (Rows.shareTellsSpec.pre6 enc Try.prog Try.f3 Rows.shareTellsRow.domain false) (Rows.shareTellsSpec.post enc Try.prog Try.f3 false true false false) := by
  refine returnsInHanded_of_change (C := Try.checked) own started (by kernel_rfl) Try.func3
    (ChangeSpec.witness6 (enc := enc) (C := Try.checked) false ⟨#[], #[.agg #[.bool false, .int .u64 0, .int .u64 0, .int .u64 0, .int .u64 0, .int .u64 0, .int .u64 0, .int .u64 0, .int .u64 0, .bool false, .int .u64 0], .agg #[.int .u64 0, .int .u64 0, .int .u64 0], .agg #[.int .u64 0, .int .u64 0]], []⟩ 8 (by kernel_rfl) (by kernel_rfl) (by kernel_rfl) (by kernel_rfl)) ?_
  intro W base args ds gs before hval0 hW hcnd _
  have hval : ∀ (j : Nat) t v, Try.f3.params[j]? = some t → args[j]? = some v → Value.okWide Try.prog W .any base t v := hval0
  have hW' := hW
  obtain ⟨p, q, hA0, hV, rfl, hfz, hnd⟩ := hW
  have hA : DataW.TrodAll enc Try.prog W 0 (fun _ => true) true Try.f3.params.toList args.toList ds p := hA0
  rw [Try.params3] at hA hval
  obtain ⟨v0, vs0, d0, ds0, p0, q0, hargs, rfl, rfl, h0, r0⟩ := trodAll_cons hA
  obtain ⟨v1, vs1, d1, ds1, p1, q1, rfl, rfl, rfl, h1, r1⟩ := trodAll_cons r0
  obtain ⟨v2, vs2, d2, ds2, p2, q2, rfl, rfl, rfl, h2, r2⟩ := trodAll_cons r1
  obtain ⟨rfl, rfl, rfl⟩ := trodAll_nil r2
  obtain rfl : args = #[v0, v1, v2] := by cases args; simp_all
  obtain ⟨rfl, rfl⟩ := trodVars_none hV
  have k0 := h0
  have lt0 : ∀ x ∈ p0, x.block < W.heap.size := by obtain ⟨m, hm⟩ := k0; exact DataW.trod_lt m _ _ _ hm
  obtain ⟨a0_0, a0_1, a0_2, a0_3, a0_4, a0_5, a0_6, a0_7, a0_8, a0_9, a0_10, rfl, b0_1, b0_2, b0_3, b0_4, b0_5, b0_6, b0_7, b0_8, b0_10⟩ := open_child (hval 0 30 v0 rfl rfl) h0
  have k1 := h1
  have lt1 : ∀ x ∈ p1, x.block < W.heap.size := by obtain ⟨m, hm⟩ := k1; exact DataW.trod_lt m _ _ _ hm
  obtain ⟨x1_0, x1_1, x1_2, y1_0, y1_1, y1_2, m1, rfl, hd1, hp1, q1_0, q1_1, q1_2⟩ := Joins.open_agg3 Try.underlying32 (by kernel_rfl) (show Try.prog.cellsOf 32 = 3 by kernel_rfl) (hval 1 32 v1 rfl rfl) h1
  obtain ⟨a1_0, e1_0, _, wf1_0⟩ := DataW.trod_int Try.underlying22 q1_0
  simp at e1_0
  subst e1_0
  have b1_0 := bounds_u64 wf1_0
  obtain ⟨a1_1, e1_1, _, wf1_1⟩ := DataW.trod_int Try.underlying22 q1_1
  simp at e1_1
  subst e1_1
  have b1_1 := bounds_u64 wf1_1
  obtain ⟨a1_2, e1_2, _, wf1_2⟩ := DataW.trod_int Try.underlying22 q1_2
  simp at e1_2
  subst e1_2
  have b1_2 := bounds_u64 wf1_2
  have k2 := h2
  have lt2 : ∀ x ∈ p2, x.block < W.heap.size := by obtain ⟨m, hm⟩ := k2; exact DataW.trod_lt m _ _ _ hm
  obtain ⟨a2_0, a2_1, rfl, wf2_0, wf2_1⟩ := open_arr2 Try.underlying33 Try.underlying22 (by kernel_rfl) (by kernel_rfl) (hval 2 33 v2 rfl rfl) h2
  have b2_0 := bounds_u64 wf2_0
  have b2_1 := bounds_u64 wf2_1
  clear hA0 hval0
  refine (ShareTells_walk a0_0 a0_1 b0_1 a0_2 b0_2 a0_3 b0_3 a0_4 b0_4 a0_5 b0_5 a0_6 b0_6 a0_7 b0_7 a0_8 b0_8 a0_9 a0_10 b0_10 a1_0 b1_0 a1_1 b1_1 a1_2 b1_2 a2_0 b2_0 a2_1 b2_1 W).mono fun e W' ⟨he, bel⟩ => ?_
  subst he
  exact ⟨_, rfl, _, _, _, [], _, [], hW', trodAll_mk1 (shut_bool Try.underlying4 _), (trodAll_cons_mk (Below.trod laidOut (by kernel_rfl) (of_decide_eq_true (by kernel_rfl)) k0 bel lt0) (trodAll_cons_mk (Below.trod laidOut (by kernel_rfl) (of_decide_eq_true (by kernel_rfl)) k1 bel lt1) (trodAll_cons_mk (Below.trod laidOut (by kernel_rfl) (of_decide_eq_true (by kernel_rfl)) k2 bel lt2) trodAll_mk0))), rfl, bel.frame _, fun h => by cases h⟩
theorem over : Rows.shareTellsRow.holds Try.pinned (OpenSpec.ofChange Rows.shareTellsSpec) :=
  OpenClaim.holds_of_wide 3 Try.f3 rfl rfl rfl rfl rfl rfl rfl ⟨rfl, rfl, rfl, rfl, rfl⟩ rfl rfl rfl rfl rfl (by kernel_rfl) Try.func3 (by kernel_rfl)
    (of_decide_eq_true (by kernel_rfl)) (by unfold Func.isWrapper; first | (rw [if_pos (by decide +kernel)]; kernel_rfl) | (rw [if_neg (by decide +kernel)]; exact ⟨rfl, rfl⟩))
    (fun os started H enc _ => lifted os started H enc)
end shareTellsDone
theorem ShareTells_holds : Rows.ShareTellsSaid := shareTellsDone.over

end Go.Proofs.Ytnkpoelljfbefaa
