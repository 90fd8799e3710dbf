/-
  The statement UpperTells: what any wake, and any bytes, make of any class's limit; the closed example 'sixty'. Conditions: none.
-/
import Derived.Test.YtnkpoelljfbefaaUpperW
import Derived.Test.YtnkpoelljfbefaaUpperM
import Derived.Test.YtnkpoelljfbefaaFrame
import Derived.Laws.StructEq
namespace Go.Proofs.Ytnkpoelljfbefaa
open Go.ChangeShapes Go.WideShapes Go.ChangeAt Go.RowKit
open Go.Sort
set_option linter.unusedVariables false
set_option linter.unusedSimpArgs false
theorem childlist2 {α : Type} {l : List α} (h : l.length = 2) : ∃ a0 a1, l = [a0, a1] := by
  match l, h with
  | [a0, a1], _ => exact ⟨a0, a1, rfl⟩
theorem childlist3 {α : Type} {l : List α} (h : l.length = 3) : ∃ a0 a1 a2, l = [a0, a1, a2] := by
  match l, h with
  | [a0, a1, a2], _ => exact ⟨a0, a1, a2, rfl⟩
theorem childlist11 {α : Type} {l : List α} (h : l.length = 11) : ∃ a0 a1 a2 a3 a4 a5 a6 a7 a8 a9 a10, l = [a0, a1, a2, a3, a4, a5, a6, a7, a8, a9, a10] := by
  match l, h with
  | [a0, a1, a2, a3, a4, a5, a6, a7, a8, a9, a10], _ => exact ⟨a0, a1, a2, a3, a4, a5, a6, a7, a8, a9, a10, rfl⟩
theorem cells_child {H : Type} {w : World} {base : Nat} {spare : Nat → Bool} {held : Bool} {enc : TypeId × Value → H} {fuel : Nat} {c0 c1 c2 c3 c4 c5 c6 c7 c8 c9 c10 : Value} {x : DataW H × List MemPlace} (hf : DataW.trod enc Try.prog w base spare held fuel 61 [c0, c1, c2, c3, c4, c5, c6, c7, c8, c9, c10] = some x) :
    ∃ (x0 : Bool) (x1 : Int) (x2 : Int) (x3 : Int) (x4 : Int) (x5 : Int) (x6 : Int) (x7 : Int) (x8 : Int) (x9 : Bool) (x10 : Int), [c0, c1, c2, c3, c4, c5, c6, c7, c8, c9, c10] = [.bool x0, .int .u64 x1, .int .u64 x2, .int .u64 x3, .int .u64 x4, .int .u64 x5, .int .u64 x6, .int .u64 x7, .int .u64 x8, .bool x9, .int .u64 x10] ∧ (0 ≤ x1 ∧ x1 ≤ 18446744073709551615) ∧ (0 ≤ x2 ∧ x2 ≤ 18446744073709551615) ∧ (0 ≤ x3 ∧ x3 ≤ 18446744073709551615) ∧ (0 ≤ x4 ∧ x4 ≤ 18446744073709551615) ∧ (0 ≤ x5 ∧ x5 ≤ 18446744073709551615) ∧ (0 ≤ x6 ∧ x6 ≤ 18446744073709551615) ∧ (0 ≤ x7 ∧ x7 ≤ 18446744073709551615) ∧ (0 ≤ x8 ∧ x8 ≤ 18446744073709551615) ∧ (0 ≤ x10 ∧ x10 ≤ 18446744073709551615) := by
  have k0 : Try.prog.cellsOf 61 = 11 := by kernel_rfl
  have k1 : Try.prog.cellsOf 4 = 1 := by kernel_rfl
  have k2 : Try.prog.cellsOf 28 = 9 := by kernel_rfl
  have k3 : Try.prog.cellsOf 26 = 4 := by kernel_rfl
  have k4 : Try.prog.cellsOf 22 = 1 := by kernel_rfl
  have k5 : Try.prog.cellsOf 24 = 2 := by kernel_rfl
  obtain ⟨ys0, m0, _, _, _, hl0, hx0⟩ := DataW.trod_struct Try.underlying61 hf
  obtain ⟨y0_0, y0_1, y0_2, rfl⟩ := childlist3 hl0
  have q0_0 := hx0 0 _ rfl
  have q0_1 := hx0 1 _ rfl
  have q0_2 := hx0 2 _ rfl
  simp [k1, k2, k4] at q0_0 q0_1 q0_2
  obtain ⟨x0, e0, _⟩ := DataW.trod_bool Try.underlying4 q0_0
  obtain ⟨ys1, m1, _, _, _, hl1, hx1⟩ := DataW.trod_struct Try.underlying28 q0_1
  obtain ⟨y1_0, y1_1, y1_2, rfl⟩ := childlist3 hl1
  have q1_0 := hx1 0 _ rfl
  have q1_1 := hx1 1 _ rfl
  have q1_2 := hx1 2 _ rfl
  simp [k1, k3] at q1_0 q1_1 q1_2
  obtain ⟨ys2, m2, _, _, _, hl2, hx2⟩ := DataW.trod_struct Try.underlying26 q1_0
  obtain ⟨y2_0, y2_1, y2_2, rfl⟩ := childlist3 hl2
  have q2_0 := hx2 0 _ rfl
  have q2_1 := hx2 1 _ rfl
  have q2_2 := hx2 2 _ rfl
  simp [k4, k5] at q2_0 q2_1 q2_2
  obtain ⟨x1, e1, _, w1⟩ := DataW.trod_int Try.underlying22 q2_0
  obtain ⟨ys3, m3, _, _, _, hl3, hx3⟩ := DataW.trod_struct Try.underlying24 q2_1
  obtain ⟨y3_0, y3_1, rfl⟩ := childlist2 hl3
  have q3_0 := hx3 0 _ rfl
  have q3_1 := hx3 1 _ rfl
  simp [k4] at q3_0 q3_1
  obtain ⟨x2, e2, _, w2⟩ := DataW.trod_int Try.underlying22 q3_0
  obtain ⟨x3, e3, _, w3⟩ := DataW.trod_int Try.underlying22 q3_1
  obtain ⟨x4, e4, _, w4⟩ := DataW.trod_int Try.underlying22 q2_2
  obtain ⟨ys4, m4, _, _, _, hl4, hx4⟩ := DataW.trod_struct Try.underlying26 q1_1
  obtain ⟨y4_0, y4_1, y4_2, rfl⟩ := childlist3 hl4
  have q4_0 := hx4 0 _ rfl
  have q4_1 := hx4 1 _ rfl
  have q4_2 := hx4 2 _ rfl
  simp [k4, k5] at q4_0 q4_1 q4_2
  obtain ⟨x5, e5, _, w5⟩ := DataW.trod_int Try.underlying22 q4_0
  obtain ⟨ys5, m5, _, _, _, hl5, hx5⟩ := DataW.trod_struct Try.underlying24 q4_1
  obtain ⟨y5_0, y5_1, rfl⟩ := childlist2 hl5
  have q5_0 := hx5 0 _ rfl
  have q5_1 := hx5 1 _ rfl
  simp [k4] at q5_0 q5_1
  obtain ⟨x6, e6, _, w6⟩ := DataW.trod_int Try.underlying22 q5_0
  obtain ⟨x7, e7, _, w7⟩ := DataW.trod_int Try.underlying22 q5_1
  obtain ⟨x8, e8, _, w8⟩ := DataW.trod_int Try.underlying22 q4_2
  obtain ⟨x9, e9, _⟩ := DataW.trod_bool Try.underlying4 q1_2
  obtain ⟨x10, e10, _, w10⟩ := DataW.trod_int Try.underlying22 q0_2
  simp at e0 e1 e2 e3 e4 e5 e6 e7 e8 e9 e10
  subst e0 e1 e2 e3 e4 e5 e6 e7 e8 e9 e10
  exact ⟨x0, x1, x2, x3, x4, x5, x6, x7, x8, x9, x10, rfl, bounds_u64 w1, bounds_u64 w2, bounds_u64 w3, bounds_u64 w4, bounds_u64 w5, bounds_u64 w6, bounds_u64 w7, bounds_u64 w8, bounds_u64 w10⟩
set_option maxRecDepth 100000 in
theorem open_child {H : Type} {w : World} {base : Nat} {spare : Nat → Bool} {held : Bool} {enc : TypeId × Value → H} {r : Reach} {b0 : Nat} {v : Value} {d : DataW H} {p : List MemPlace} (hv : Value.okWide Try.prog w r b0 61 v) (h : DataW.Trod enc Try.prog w base spare held 61 v d p) :
    ∃ (x0 : Bool) (x1 : Int) (x2 : Int) (x3 : Int) (x4 : Int) (x5 : Int) (x6 : Int) (x7 : Int) (x8 : Int) (x9 : Bool) (x10 : Int), v = .agg #[.bool x0, .int .u64 x1, .int .u64 x2, .int .u64 x3, .int .u64 x4, .int .u64 x5, .int .u64 x6, .int .u64 x7, .int .u64 x8, .bool x9, .int .u64 x10] ∧ (0 ≤ x1 ∧ x1 ≤ 18446744073709551615) ∧ (0 ≤ x2 ∧ x2 ≤ 18446744073709551615) ∧ (0 ≤ x3 ∧ x3 ≤ 18446744073709551615) ∧ (0 ≤ x4 ∧ x4 ≤ 18446744073709551615) ∧ (0 ≤ x5 ∧ x5 ≤ 18446744073709551615) ∧ (0 ≤ x6 ∧ x6 ≤ 18446744073709551615) ∧ (0 ≤ x7 ∧ x7 ≤ 18446744073709551615) ∧ (0 ≤ x8 ∧ x8 ≤ 18446744073709551615) ∧ (0 ≤ x10 ∧ x10 ≤ 18446744073709551615) := by
  obtain ⟨cs, rfl, hsz⟩ := okWide_struct Try.underlying61 hv
  obtain ⟨l⟩ := cs
  obtain ⟨c0, c1, c2, c3, c4, c5, c6, c7, c8, c9, c10, rfl⟩ := childlist11 (l := l) (hsz.trans (show Try.prog.cellsOf 61 = 11 by kernel_rfl))
  obtain ⟨fuel, hf⟩ := h
  obtain ⟨x0, x1, x2, x3, x4, x5, x6, x7, x8, x9, x10, e, bs⟩ := cells_child (x := (d, p)) (show DataW.trod enc Try.prog w base spare held fuel 61 [c0, c1, c2, c3, c4, c5, c6, c7, c8, c9, c10] = some (d, p) by simpa [Value.cells] using hf)
  simp at e
  obtain ⟨rfl, rfl, rfl, rfl, rfl, rfl, rfl, rfl, rfl, rfl, rfl⟩ := e
  exact ⟨x0, x1, x2, x3, x4, x5, x6, x7, x8, x9, x10, rfl, bs⟩
theorem num22 (n : Int) (w : World) (hn : In128 n) :
    Calls Try.prog 59 #[wv n] w fun e w' => e = .returned (nv n) ∧ Below w.heap.size w w' := by
  go_enter Try.func59, Try.ntmps59
  have r1 := hi_rng n; have r2 := lo_rng n
  go_wp2_with fail
  refine (rTwo n _ hn).mono ?_
  rintro e w1 ⟨rfl, hb1⟩
  have hz1 := hb1.size
  (try simp at hz1)
  obtain ⟨hc1, hf1⟩ := bcell hb1
  try have z1 := Nat.lt_of_succ_le hz1
  have k1 : Below w.heap.size w w1 := by refine Below.trans ?_ (hb1.mono ?_) <;> (repeat' (first | (with_reducible (first | exact Below.refl _ _ | assumption | refine below_drewN ?_ _ | refine Below.drew ?_ | refine Below.alloc ?_ ?_ _ | refine Below.setCell ?_ ?_ _)) | go_size))
  have g1 := k1
  clear hb1 k1
  go_wp2
  refine bodyPost_ret (v := nv n) (by simp [results, Try.results59, go_sem, hc1]) rfl ⟨rfl, by (repeat' (first | (with_reducible (first | exact Below.refl _ _ | assumption | refine below_drewN ?_ _ | refine Below.drew ?_ | refine Below.alloc ?_ ?_ _ | refine Below.setCell ?_ ?_ _)) | go_size))⟩
set_option maxHeartbeats 1000000 in
theorem one22 (l : LN) (w : World) (h : l.ok) :
    Calls Try.prog 43 #[lnv l] w fun e w' => e = .returned (rlnv l) ∧ Below w.heap.size w w' := by
  have hY : In128 l.Y := h.2.1
  go_enter Try.func43, Try.ntmps43
  go_wp2_with fail
  refine wp_forget (fun v => Below w.heap.size w v ∧ Blk v (w.heap.size) #[.int .u64 l.X, .int .u64 (hi (l.Y)), .int .u64 (lo (l.Y)), .int .u64 l.M] 26 ∧ Blk v (w.heap.size + 1) #[.int .u64 0, .int .u64 0, .int .u64 0, .int .u64 0, .int .u64 0, .int .u64 0] 38) ⟨by (repeat' (first | (with_reducible (first | exact Below.refl _ _ | assumption | refine below_drewN ?_ _ | refine Below.drew ?_ | refine Below.alloc ?_ ?_ _ | refine Below.setCell ?_ ?_ _)) | go_size)), by (repeat' (first | (with_reducible (first | assumption | exact Blk.alloc_new _ _ _ (by first | rfl | (simp; done) | omega) | apply Blk.drewN | apply Blk.drew | apply Blk.alloc_old | apply Blk.set_same | apply Blk.set_other)) | (show (_ : Nat) ≠ _; first | omega | (simp; done) | (simp; omega)) | ((simp only [List.setIfInBounds_toArray, List.set_cons_succ, List.set_cons_zero]); (with_reducible exact rfl)) | (with_reducible exact rfl) | (show (_ : Array Value) = _; exact rfl))), by (repeat' (first | (with_reducible (first | assumption | exact Blk.alloc_new _ _ _ (by first | rfl | (simp; done) | omega) | apply Blk.drewN | apply Blk.drew | apply Blk.alloc_old | apply Blk.set_same | apply Blk.set_other)) | (show (_ : Nat) ≠ _; first | omega | (simp; done) | (simp; omega)) | ((simp only [List.setIfInBounds_toArray, List.set_cons_succ, List.set_cons_zero]); (with_reducible exact rfl)) | (with_reducible exact rfl) | (show (_ : Array Value) = _; exact rfl)))⟩ ?_
  rintro w0 ⟨g0, A0, R0⟩
  have hz0 := g0.size
  replace cA := A0.cell
  replace fA := A0.frozen
  replace zA := A0.size
  replace cR := R0.cell
  replace fR := R0.frozen
  replace zR := R0.size
  go_region_held3 (fun v => (∀ i, v.cell? ⟨w.heap.size, i, none⟩ = #[.int .u64 l.X, .int .u64 (hi (l.Y)), .int .u64 (lo (l.Y)), .int .u64 l.M][i]?) ∧ w.heap.size < v.heap.size ∧ Blk v (w.heap.size) #[.int .u64 l.X, .int .u64 (hi (l.Y)), .int .u64 (lo (l.Y)), .int .u64 l.M] 26 ∧ Below w.heap.size w v)
    (first
      | (refine ⟨?_, ?_, ?_, ?_⟩ <;> first | (with_reducible assumption) | ((repeat' (first | (with_reducible (first | assumption | exact Blk.alloc_new _ _ _ (by first | rfl | (simp; done) | omega) | apply Blk.drewN | apply Blk.drew | apply Blk.alloc_old | apply Blk.set_same | apply Blk.set_other)) | (show (_ : Nat) ≠ _; first | omega | (simp; done) | (simp; omega)) | ((simp only [List.setIfInBounds_toArray, List.set_cons_succ, List.set_cons_zero]); (with_reducible exact rfl)) | (with_reducible exact rfl) | (show (_ : Array Value) = _; exact rfl))); done) | ((repeat' (first | (with_reducible (first | exact Below.refl _ _ | assumption | refine below_drewN ?_ _ | refine Below.drew ?_ | refine Below.alloc ?_ ?_ _ | refine Below.setCell ?_ ?_ _)) | go_size)); done) | omega | (go_simp; done) | (simp; done) | (exact Blk.cell (by (repeat' (first | (with_reducible (first | assumption | exact Blk.alloc_new _ _ _ (by first | rfl | (simp; done) | omega) | apply Blk.drewN | apply Blk.drew | apply Blk.alloc_old | apply Blk.set_same | apply Blk.set_other)) | (show (_ : Nat) ≠ _; first | omega | (simp; done) | (simp; omega)) | ((simp only [List.setIfInBounds_toArray, List.set_cons_succ, List.set_cons_zero]); (with_reducible exact rfl)) | (with_reducible exact rfl) | (show (_ : Array Value) = _; exact rfl)))))))
    (first
      | (go_at_call 59; (with_reducible refine (num22 l.Y _ hY).mono ?_); rintro e w' ⟨rfl, hb'⟩; have hbx : Below w.heap.size w w' := (by refine Below.trans ?_ (Below.mono hb' ?_) <;> (repeat' (first | (with_reducible (first | exact Below.refl _ _ | assumption | refine below_drewN ?_ _ | refine Below.drew ?_ | refine Below.alloc ?_ ?_ _ | refine Below.setCell ?_ ?_ _)) | go_size))); have hbs := hb'.size; (try simp at hbs); have hkA : Blk w' (w.heap.size) #[.int .u64 l.X, .int .u64 (hi (l.Y)), .int .u64 (lo (l.Y)), .int .u64 l.M] 26 := Blk.below (by (repeat' (first | (with_reducible (first | assumption | exact Blk.alloc_new _ _ _ (by first | rfl | (simp; done) | omega) | apply Blk.drewN | apply Blk.drew | apply Blk.alloc_old | apply Blk.set_same | apply Blk.set_other)) | (show (_ : Nat) ≠ _; first | omega | (simp; done) | (simp; omega)) | ((simp only [List.setIfInBounds_toArray, List.set_cons_succ, List.set_cons_zero]); (with_reducible exact rfl)) | (with_reducible exact rfl) | (show (_ : Array Value) = _; exact rfl)))) hb' (by first | (simp; done) | omega | (simp; omega)); have hqA := hkA.cell; have hzA := hkA.size; have hkR : Blk w' (w.heap.size + 1) #[.int .u64 0, .int .u64 0, .int .u64 0, .int .u64 0, .int .u64 0, .int .u64 0] 38 := Blk.below (by (repeat' (first | (with_reducible (first | assumption | exact Blk.alloc_new _ _ _ (by first | rfl | (simp; done) | omega) | apply Blk.drewN | apply Blk.drew | apply Blk.alloc_old | apply Blk.set_same | apply Blk.set_other)) | (show (_ : Nat) ≠ _; first | omega | (simp; done) | (simp; omega)) | ((simp only [List.setIfInBounds_toArray, List.set_cons_succ, List.set_cons_zero]); (with_reducible exact rfl)) | (with_reducible exact rfl) | (show (_ : Array Value) = _; exact rfl)))) hb' (by first | (simp; done) | omega | (simp; omega)); have cR := hkR.cell; have fR := hkR.frozen; have zR := hkR.size; clear hb'))
  all_goals
    go_wp2
    refine bp_forget (fun v => Below w.heap.size w v ∧ Blk v (w.heap.size + 1) #[.int .u64 l.X, .int .u64 (dg0 (l.Y)), .int .u64 (dg1 (l.Y)), .int .u64 (dg2 (l.Y)), .int .u64 (dg3 (l.Y)), .int .u64 l.M] 38) ⟨by (repeat' (first | (with_reducible (first | exact Below.refl _ _ | assumption | refine below_drewN ?_ _ | refine Below.drew ?_ | refine Below.alloc ?_ ?_ _ | refine Below.setCell ?_ ?_ _)) | go_size)), by (repeat' (first | (with_reducible (first | assumption | exact Blk.alloc_new _ _ _ (by first | rfl | (simp; done) | omega) | apply Blk.drewN | apply Blk.drew | apply Blk.alloc_old | apply Blk.set_same | apply Blk.set_other)) | (show (_ : Nat) ≠ _; first | omega | (simp; done) | (simp; omega)) | ((simp only [List.setIfInBounds_toArray, List.set_cons_succ, List.set_cons_zero]); (with_reducible exact rfl)) | (with_reducible exact rfl) | (show (_ : Array Value) = _; exact rfl)))⟩ ?_
    rintro v ⟨gv, Bv⟩
    have cv := Bv.cell
    refine bodyPost_ret (v := rlnv l) (by simp [results, Try.results43, go_sem, cv]) rfl ⟨rfl, gv⟩
set_option maxRecDepth 100000 in
set_option maxHeartbeats 4000000 in
theorem ref22 (c : CH) (w : World) (h : c.r.ok) :
    Calls Try.prog 23 #[chv c] w fun e w' => e = .returned (rchv c) ∧ Below w.heap.size w w' := by
  have hf : c.r.f.ok := h.1; have ht : c.r.t.ok := h.2
  go_enter Try.func23, Try.ntmps23
  go_wp2_with fail
  refine wp_forget (fun v => Below w.heap.size w v ∧ Blk v (w.heap.size) #[.bool c.has, .int .u64 c.r.f.X, .int .u64 (hi (c.r.f.Y)), .int .u64 (lo (c.r.f.Y)), .int .u64 c.r.f.M, .int .u64 c.r.t.X, .int .u64 (hi (c.r.t.Y)), .int .u64 (lo (c.r.t.Y)), .int .u64 c.r.t.M, .bool c.r.b, .int .u64 c.t] 61 ∧ Blk v (w.heap.size + 1) #[.bool false, .int .u64 0, .int .u64 0, .int .u64 0, .int .u64 0, .int .u64 0, .int .u64 0, .int .u64 0, .int .u64 0, .int .u64 0, .int .u64 0, .int .u64 0, .int .u64 0, .bool false, .int .u64 0] 63) ⟨by (repeat' (first | (with_reducible (first | exact Below.refl _ _ | assumption | refine below_drewN ?_ _ | refine Below.drew ?_ | refine Below.alloc ?_ ?_ _ | refine Below.setCell ?_ ?_ _)) | go_size)), by (repeat' (first | (with_reducible (first | assumption | exact Blk.alloc_new _ _ _ (by first | rfl | (simp; done) | omega) | apply Blk.drewN | apply Blk.drew | apply Blk.alloc_old | apply Blk.set_same | apply Blk.set_other)) | (show (_ : Nat) ≠ _; first | omega | (simp; done) | (simp; omega)) | ((simp only [List.setIfInBounds_toArray, List.set_cons_succ, List.set_cons_zero]); (with_reducible exact rfl)) | (with_reducible exact rfl) | (show (_ : Array Value) = _; exact rfl))), by (repeat' (first | (with_reducible (first | assumption | exact Blk.alloc_new _ _ _ (by first | rfl | (simp; done) | omega) | apply Blk.drewN | apply Blk.drew | apply Blk.alloc_old | apply Blk.set_same | apply Blk.set_other)) | (show (_ : Nat) ≠ _; first | omega | (simp; done) | (simp; omega)) | ((simp only [List.setIfInBounds_toArray, List.set_cons_succ, List.set_cons_zero]); (with_reducible exact rfl)) | (with_reducible exact rfl) | (show (_ : Array Value) = _; exact rfl)))⟩ ?_
  rintro w0 ⟨g0, A0, R0⟩
  have hz0 := g0.size
  replace cA := A0.cell
  replace fA := A0.frozen
  replace zA := A0.size
  replace cR := R0.cell
  replace fR := R0.frozen
  replace zR := R0.size
  go_region_held3 (fun v => (∀ i, v.cell? ⟨w.heap.size, i, none⟩ = #[.bool c.has, .int .u64 c.r.f.X, .int .u64 (hi (c.r.f.Y)), .int .u64 (lo (c.r.f.Y)), .int .u64 c.r.f.M, .int .u64 c.r.t.X, .int .u64 (hi (c.r.t.Y)), .int .u64 (lo (c.r.t.Y)), .int .u64 c.r.t.M, .bool c.r.b, .int .u64 c.t][i]?) ∧ w.heap.size < v.heap.size ∧ Blk v (w.heap.size) #[.bool c.has, .int .u64 c.r.f.X, .int .u64 (hi (c.r.f.Y)), .int .u64 (lo (c.r.f.Y)), .int .u64 c.r.f.M, .int .u64 c.r.t.X, .int .u64 (hi (c.r.t.Y)), .int .u64 (lo (c.r.t.Y)), .int .u64 c.r.t.M, .bool c.r.b, .int .u64 c.t] 61 ∧ Below w.heap.size w v)
    (first
      | (refine ⟨?_, ?_, ?_, ?_⟩ <;> first | (with_reducible assumption) | ((repeat' (first | (with_reducible (first | assumption | exact Blk.alloc_new _ _ _ (by first | rfl | (simp; done) | omega) | apply Blk.drewN | apply Blk.drew | apply Blk.alloc_old | apply Blk.set_same | apply Blk.set_other)) | (show (_ : Nat) ≠ _; first | omega | (simp; done) | (simp; omega)) | ((simp only [List.setIfInBounds_toArray, List.set_cons_succ, List.set_cons_zero]); (with_reducible exact rfl)) | (with_reducible exact rfl) | (show (_ : Array Value) = _; exact rfl))); done) | ((repeat' (first | (with_reducible (first | exact Below.refl _ _ | assumption | refine below_drewN ?_ _ | refine Below.drew ?_ | refine Below.alloc ?_ ?_ _ | refine Below.setCell ?_ ?_ _)) | go_size)); done) | omega | (go_simp; done) | (simp; done) | (exact Blk.cell (by (repeat' (first | (with_reducible (first | assumption | exact Blk.alloc_new _ _ _ (by first | rfl | (simp; done) | omega) | apply Blk.drewN | apply Blk.drew | apply Blk.alloc_old | apply Blk.set_same | apply Blk.set_other)) | (show (_ : Nat) ≠ _; first | omega | (simp; done) | (simp; omega)) | ((simp only [List.setIfInBounds_toArray, List.set_cons_succ, List.set_cons_zero]); (with_reducible exact rfl)) | (with_reducible exact rfl) | (show (_ : Array Value) = _; exact rfl)))))))
    (first
      | (go_at_call 43; (with_reducible refine (one22 c.r.f _ hf).mono ?_); rintro e w' ⟨rfl, hb'⟩; have hbx : Below w.heap.size w w' := (by refine Below.trans ?_ (Below.mono hb' ?_) <;> (repeat' (first | (with_reducible (first | exact Below.refl _ _ | assumption | refine below_drewN ?_ _ | refine Below.drew ?_ | refine Below.alloc ?_ ?_ _ | refine Below.setCell ?_ ?_ _)) | go_size))); have hbs := hb'.size; (try simp at hbs); have hkA : Blk w' (w.heap.size) #[.bool c.has, .int .u64 c.r.f.X, .int .u64 (hi (c.r.f.Y)), .int .u64 (lo (c.r.f.Y)), .int .u64 c.r.f.M, .int .u64 c.r.t.X, .int .u64 (hi (c.r.t.Y)), .int .u64 (lo (c.r.t.Y)), .int .u64 c.r.t.M, .bool c.r.b, .int .u64 c.t] 61 := Blk.below (by (repeat' (first | (with_reducible (first | assumption | exact Blk.alloc_new _ _ _ (by first | rfl | (simp; done) | omega) | apply Blk.drewN | apply Blk.drew | apply Blk.alloc_old | apply Blk.set_same | apply Blk.set_other)) | (show (_ : Nat) ≠ _; first | omega | (simp; done) | (simp; omega)) | ((simp only [List.setIfInBounds_toArray, List.set_cons_succ, List.set_cons_zero]); (with_reducible exact rfl)) | (with_reducible exact rfl) | (show (_ : Array Value) = _; exact rfl)))) hb' (by first | (simp; done) | omega | (simp; omega)); have hqA := hkA.cell; have hzA := hkA.size; have hkR : Blk w' (w.heap.size + 1) #[.bool false, .int .u64 0, .int .u64 0, .int .u64 0, .int .u64 0, .int .u64 0, .int .u64 0, .int .u64 0, .int .u64 0, .int .u64 0, .int .u64 0, .int .u64 0, .int .u64 0, .bool false, .int .u64 0] 63 := Blk.below (by (repeat' (first | (with_reducible (first | assumption | exact Blk.alloc_new _ _ _ (by first | rfl | (simp; done) | omega) | apply Blk.drewN | apply Blk.drew | apply Blk.alloc_old | apply Blk.set_same | apply Blk.set_other)) | (show (_ : Nat) ≠ _; first | omega | (simp; done) | (simp; omega)) | ((simp only [List.setIfInBounds_toArray, List.set_cons_succ, List.set_cons_zero]); (with_reducible exact rfl)) | (with_reducible exact rfl) | (show (_ : Array Value) = _; exact rfl)))) hb' (by first | (simp; done) | omega | (simp; omega)); have cR := hkR.cell; have fR := hkR.frozen; have zR := hkR.size; clear hb')
      | (go_at_call 43; (with_reducible refine (one22 c.r.t _ ht).mono ?_); rintro e w' ⟨rfl, hb'⟩; have hbx : Below w.heap.size w w' := (by refine Below.trans ?_ (Below.mono hb' ?_) <;> (repeat' (first | (with_reducible (first | exact Below.refl _ _ | assumption | refine below_drewN ?_ _ | refine Below.drew ?_ | refine Below.alloc ?_ ?_ _ | refine Below.setCell ?_ ?_ _)) | go_size))); have hbs := hb'.size; (try simp at hbs); have hkA : Blk w' (w.heap.size) #[.bool c.has, .int .u64 c.r.f.X, .int .u64 (hi (c.r.f.Y)), .int .u64 (lo (c.r.f.Y)), .int .u64 c.r.f.M, .int .u64 c.r.t.X, .int .u64 (hi (c.r.t.Y)), .int .u64 (lo (c.r.t.Y)), .int .u64 c.r.t.M, .bool c.r.b, .int .u64 c.t] 61 := Blk.below (by (repeat' (first | (with_reducible (first | assumption | exact Blk.alloc_new _ _ _ (by first | rfl | (simp; done) | omega) | apply Blk.drewN | apply Blk.drew | apply Blk.alloc_old | apply Blk.set_same | apply Blk.set_other)) | (show (_ : Nat) ≠ _; first | omega | (simp; done) | (simp; omega)) | ((simp only [List.setIfInBounds_toArray, List.set_cons_succ, List.set_cons_zero]); (with_reducible exact rfl)) | (with_reducible exact rfl) | (show (_ : Array Value) = _; exact rfl)))) hb' (by first | (simp; done) | omega | (simp; omega)); have hqA := hkA.cell; have hzA := hkA.size; have hkR : Blk w' (w.heap.size + 1) #[.bool false, .int .u64 0, .int .u64 0, .int .u64 0, .int .u64 0, .int .u64 0, .int .u64 0, .int .u64 0, .int .u64 0, .int .u64 0, .int .u64 0, .int .u64 0, .int .u64 0, .bool false, .int .u64 0] 63 := Blk.below (by (repeat' (first | (with_reducible (first | assumption | exact Blk.alloc_new _ _ _ (by first | rfl | (simp; done) | omega) | apply Blk.drewN | apply Blk.drew | apply Blk.alloc_old | apply Blk.set_same | apply Blk.set_other)) | (show (_ : Nat) ≠ _; first | omega | (simp; done) | (simp; omega)) | ((simp only [List.setIfInBounds_toArray, List.set_cons_succ, List.set_cons_zero]); (with_reducible exact rfl)) | (with_reducible exact rfl) | (show (_ : Array Value) = _; exact rfl)))) hb' (by first | (simp; done) | omega | (simp; omega)); have cR := hkR.cell; have fR := hkR.frozen; have zR := hkR.size; clear hb'))
  all_goals
    go_wp2
    refine bp_forget (fun v => Below w.heap.size w v ∧ Blk v (w.heap.size + 1) #[.bool c.has, .int .u64 c.r.f.X, .int .u64 (dg0 (c.r.f.Y)), .int .u64 (dg1 (c.r.f.Y)), .int .u64 (dg2 (c.r.f.Y)), .int .u64 (dg3 (c.r.f.Y)), .int .u64 c.r.f.M, .int .u64 c.r.t.X, .int .u64 (dg0 (c.r.t.Y)), .int .u64 (dg1 (c.r.t.Y)), .int .u64 (dg2 (c.r.t.Y)), .int .u64 (dg3 (c.r.t.Y)), .int .u64 c.r.t.M, .bool c.r.b, .int .u64 c.t] 63) ⟨by (repeat' (first | (with_reducible (first | exact Below.refl _ _ | assumption | refine below_drewN ?_ _ | refine Below.drew ?_ | refine Below.alloc ?_ ?_ _ | refine Below.setCell ?_ ?_ _)) | go_size)), by (repeat' (first | (with_reducible (first | assumption | exact Blk.alloc_new _ _ _ (by first | rfl | (simp; done) | omega) | apply Blk.drewN | apply Blk.drew | apply Blk.alloc_old | apply Blk.set_same | apply Blk.set_other)) | (show (_ : Nat) ≠ _; first | omega | (simp; done) | (simp; omega)) | ((simp only [List.setIfInBounds_toArray, List.set_cons_succ, List.set_cons_zero]); (with_reducible exact rfl)) | (with_reducible exact rfl) | (show (_ : Array Value) = _; exact rfl)))⟩ ?_
    rintro v ⟨gv, Bv⟩
    have cv := Bv.cell
    refine bodyPost_ret (v := rchv c) (by simp [results, Try.results23, go_sem, cv]) rfl ⟨rfl, gv⟩
theorem eqb_run' (k : Nat) (w : World) (x y : Bool) : (Op.equalIn (k + 1) 4 (.bool x) (.bool y)).run Try.prog w = .ok (x == y) w := by simp [Op.equalIn, Try.underlying4, go_sem]
theorem equ_run' (k : Nat) (w : World) (x y : Int) : (Op.equalIn (k + 1) 22 (.int .u64 x) (.int .u64 y)).run Try.prog w = .ok (x == y) w := by simp [Op.equalIn, Try.underlying22, go_sem]
theorem rupeqIn (d : Nat) (c : CH) (h : c.r.ok) (v : World) : (Op.equalIn (d + 5) 63 (rchv c) (rchv c)).run Try.prog v = .ok true v := by
  have hb : ∀ w, (isAgg 4).run Try.prog w = .ok false w := fun _ => by kernel_rfl
  have hu : ∀ w, (isAgg 22).run Try.prog w = .ok false w := fun _ => by kernel_rfl
  have hl : ∀ w, (isAgg 40).run Try.prog w = .ok true w := fun _ => by kernel_rfl
  have h2 := fun w x y => eqb_run' (d + 3) w x y
  have h3 := fun w x y => equ_run' (d + 3) w x y
  have h4 := fun w => rreqIn d c.r h w
  have hs : ∀ w, (sizeOf 4).run Try.prog w = .ok 1 w := fun _ => by kernel_rfl
  have hs1 : ∀ w, (sizeOf 22).run Try.prog w = .ok 1 w := fun _ => by kernel_rfl
  have hs2 : ∀ w, (sizeOf 40).run Try.prog w = .ok 13 w := fun _ => by kernel_rfl
  rw [run_equalIn_struct _ (d + 4) 63 _ _ (by kernel_rfl) (by kernel_rfl)]
  simp [Program.fieldsOf, Try.underlying63, go_sem, part, hb, hu, hl, hs, hs1, hs2, h2, h3, h4]
theorem rupeq (c : CH) (h : c.r.ok) (v : World) : (binOp .eql 63 (rchv c) (rchv c)).run Try.prog v = .ok (.bool true) v := by
  rw [run_eql_struct, rupeqIn 9995 c h]; rfl
set_option maxRecDepth 100000 in
set_option maxHeartbeats 4000000 in
theorem sixty_true (w : World) :
    Calls Try.prog 22 #[] w fun e w' => e = .returned (.bool true) ∧ Below w.heap.size w w' := by
  have K0 := hide (show ∀ v, Calls Try.prog 24 #[.agg #[.bool false, .int .u64 0, .int .u64 0, .int .u64 0, .int .u64 0, .int .u64 0, .int .u64 0, .int .u64 0, .int .u64 0, .bool false, .int .u64 0], .agg #[.int .u64 65536, .int .u64 0, .int .u64 65536], .int .u64 10, .int .u64 100] v fun e w' => e = .returned (.agg #[.bool true, .int .u64 0, .int .u64 (hi (0)), .int .u64 (lo (0)), .int .u64 0, .int .u64 10, .int .u64 (hi (6553600)), .int .u64 (lo (6553600)), .int .u64 65536, .bool false, .int .u64 0]) ∧ Below v.heap.size v w' from fun v => uwake_any ⟨false, ⟨⟨0, 0, 0⟩, ⟨0, 0, 0⟩, false⟩, 0⟩ ⟨true, ⟨⟨0, 0, 0⟩, ⟨10, 6553600, 65536⟩, false⟩, 0⟩ 65536 0 65536 10 100 v (by omega) (by omega) (by omega) (by omega) (by omega) (by unfold RN.ok LN.ok In128; simp) (by rfl))
  have K1 := hide (show ∀ v, Calls Try.prog 26 #[.agg #[.bool true, .int .u64 0, .int .u64 (hi (0)), .int .u64 (lo (0)), .int .u64 0, .int .u64 10, .int .u64 (hi (6553600)), .int .u64 (lo (6553600)), .int .u64 65536, .bool false, .int .u64 0], .int .u64 150] v fun e w' => e = .returned (.agg #[.bool true, .int .u64 0, .int .u64 (hi (0)), .int .u64 (lo (0)), .int .u64 0, .int .u64 10, .int .u64 (hi (6553600)), .int .u64 (lo (6553600)), .int .u64 65536, .bool false, .int .u64 60]) ∧ Below v.heap.size v w' from fun v => utook_any ⟨true, ⟨⟨0, 0, 0⟩, ⟨10, 6553600, 65536⟩, false⟩, 0⟩ ⟨true, ⟨⟨0, 0, 0⟩, ⟨10, 6553600, 65536⟩, false⟩, 60⟩ 150 v (by omega) (by unfold RN.ok LN.ok In128; simp) (by rfl))
  have K2 := hide (show ∀ v, Calls Try.prog 24 #[.agg #[.bool true, .int .u64 0, .int .u64 (hi (0)), .int .u64 (lo (0)), .int .u64 0, .int .u64 10, .int .u64 (hi (6553600)), .int .u64 (lo (6553600)), .int .u64 65536, .bool false, .int .u64 0], .agg #[.int .u64 0, .int .u64 0, .int .u64 0], .int .u64 9, .int .u64 9] v fun e w' => e = .returned (.agg #[.bool false, .int .u64 0, .int .u64 0, .int .u64 0, .int .u64 0, .int .u64 0, .int .u64 0, .int .u64 0, .int .u64 0, .bool false, .int .u64 0]) ∧ Below v.heap.size v w' from fun v => uwake_any ⟨true, ⟨⟨0, 0, 0⟩, ⟨10, 6553600, 65536⟩, false⟩, 0⟩ ⟨false, ⟨⟨0, 0, 0⟩, ⟨0, 0, 0⟩, false⟩, 0⟩ 0 0 0 9 9 v (by omega) (by omega) (by omega) (by omega) (by omega) (by unfold RN.ok LN.ok In128; simp) (by rfl))
  have K3 := hide (show ∀ v, Calls Try.prog 28 #[.agg #[.int .u64 65536, .int .u64 0, .int .u64 65536], .int .u64 60, .int .i64 9] v fun e w' => e = .returned (.int .u64 69) ∧ Below v.heap.size v w' from fun v => most_any 65536 0 65536 60 9 3932160 60 0 v (by omega) (by omega) (by omega) (by omega) (by omega) (by rfl) (by unfold In128; omega) (by unfold FlR hi lo; omega) 69 (by decide))
  have K4 := hide (show ∀ v, Calls Try.prog 29 #[.int .u64 7, .int .u64 60] v fun e w' => e = .returned (.int .u64 60) ∧ Below v.heap.size v w' from fun v => inner_any 7 60 60 v (by decide))
  have hfz : ∀ v, (Instr.field 61 (.agg #[.bool false, .int .u64 0, .int .u64 0, .int .u64 0, .int .u64 0, .int .u64 0, .int .u64 0, .int .u64 0, .int .u64 0, .bool false, .int .u64 0]) 0).run Try.prog v = .ok (.bool false) v := fun _ => by kernel_rfl
  go_enter Try.func22, Try.ntmps22
  go_wp2_with fail
  refine (K0.out _).mono ?_
  rintro e w1 ⟨rfl, hb1⟩
  have L1 : Blk w1 (w.heap.size) #[.int .u64 65536, .int .u64 0, .int .u64 65536] 32 := Blk.below (by (repeat' (first | (with_reducible (first | assumption | exact Blk.alloc_new _ _ _ (by first | rfl | (simp; done) | omega) | apply Blk.drewN | apply Blk.drew | apply Blk.alloc_old | apply Blk.set_same | apply Blk.set_other)) | (show (_ : Nat) ≠ _; first | omega | (simp; done) | (simp; omega)) | ((simp only [List.setIfInBounds_toArray, List.set_cons_succ, List.set_cons_zero]); (with_reducible exact rfl)) | (with_reducible exact rfl) | (show (_ : Array Value) = _; exact rfl)))) hb1 (by first | (simp; done) | omega | (simp; omega))
  have g1 : Below w.heap.size w w1 := by refine Below.trans ?_ (hb1.mono ?_) <;> (repeat' (first | (with_reducible (first | exact Below.refl _ _ | assumption | refine below_drewN ?_ _ | refine Below.drew ?_ | refine Below.alloc ?_ ?_ _ | refine Below.setCell ?_ ?_ _)) | go_size))
  have hz1 := hb1.size
  (try simp at hz1)
  clear hb1
  have cL := L1.cell
  have fL := L1.frozen
  have zL := L1.size
  go_wp2_with fail
  refine (K1.out _).mono ?_
  rintro e w2 ⟨rfl, hb2⟩
  have L2 : Blk w2 (w.heap.size) #[.int .u64 65536, .int .u64 0, .int .u64 65536] 32 := Blk.below (by (repeat' (first | (with_reducible (first | assumption | exact Blk.alloc_new _ _ _ (by first | rfl | (simp; done) | omega) | apply Blk.drewN | apply Blk.drew | apply Blk.alloc_old | apply Blk.set_same | apply Blk.set_other)) | (show (_ : Nat) ≠ _; first | omega | (simp; done) | (simp; omega)) | ((simp only [List.setIfInBounds_toArray, List.set_cons_succ, List.set_cons_zero]); (with_reducible exact rfl)) | (with_reducible exact rfl) | (show (_ : Array Value) = _; exact rfl)))) hb2 (by first | (simp; done) | omega | (simp; omega))
  have A2 : Blk w2 (w1.heap.size) #[.bool true, .int .u64 0, .int .u64 (hi (0)), .int .u64 (lo (0)), .int .u64 0, .int .u64 10, .int .u64 (hi (6553600)), .int .u64 (lo (6553600)), .int .u64 65536, .bool false, .int .u64 0] 61 := Blk.below (by (repeat' (first | (with_reducible (first | assumption | exact Blk.alloc_new _ _ _ (by first | rfl | (simp; done) | omega) | apply Blk.drewN | apply Blk.drew | apply Blk.alloc_old | apply Blk.set_same | apply Blk.set_other)) | (show (_ : Nat) ≠ _; first | omega | (simp; done) | (simp; omega)) | ((simp only [List.setIfInBounds_toArray, List.set_cons_succ, List.set_cons_zero]); (with_reducible exact rfl)) | (with_reducible exact rfl) | (show (_ : Array Value) = _; exact rfl)))) hb2 (by first | (simp; done) | omega | (simp; omega))
  have g2 : Below w.heap.size w w2 := by refine Below.trans ?_ (hb2.mono ?_) <;> (repeat' (first | (with_reducible (first | exact Below.refl _ _ | assumption | refine below_drewN ?_ _ | refine Below.drew ?_ | refine Below.alloc ?_ ?_ _ | refine Below.setCell ?_ ?_ _)) | go_size))
  have hz2 := hb2.size
  (try simp at hz2)
  clear hb2
  replace cL := L2.cell
  replace fL := L2.frozen
  replace zL := L2.size
  have cA := A2.cell
  have fA := A2.frozen
  have zA := A2.size
  go_wp2_with fail
  refine (K4.out _).mono ?_
  rintro e w3 ⟨rfl, hb3⟩
  have L3 : Blk w3 (w.heap.size) #[.int .u64 65536, .int .u64 0, .int .u64 65536] 32 := Blk.below (by (repeat' (first | (with_reducible (first | assumption | exact Blk.alloc_new _ _ _ (by first | rfl | (simp; done) | omega) | apply Blk.drewN | apply Blk.drew | apply Blk.alloc_old | apply Blk.set_same | apply Blk.set_other)) | (show (_ : Nat) ≠ _; first | omega | (simp; done) | (simp; omega)) | ((simp only [List.setIfInBounds_toArray, List.set_cons_succ, List.set_cons_zero]); (with_reducible exact rfl)) | (with_reducible exact rfl) | (show (_ : Array Value) = _; exact rfl)))) hb3 (by first | (simp; done) | omega | (simp; omega))
  have A3 : Blk w3 (w1.heap.size) #[.bool true, .int .u64 0, .int .u64 (hi (0)), .int .u64 (lo (0)), .int .u64 0, .int .u64 10, .int .u64 (hi (6553600)), .int .u64 (lo (6553600)), .int .u64 65536, .bool false, .int .u64 0] 61 := Blk.below (by (repeat' (first | (with_reducible (first | assumption | exact Blk.alloc_new _ _ _ (by first | rfl | (simp; done) | omega) | apply Blk.drewN | apply Blk.drew | apply Blk.alloc_old | apply Blk.set_same | apply Blk.set_other)) | (show (_ : Nat) ≠ _; first | omega | (simp; done) | (simp; omega)) | ((simp only [List.setIfInBounds_toArray, List.set_cons_succ, List.set_cons_zero]); (with_reducible exact rfl)) | (with_reducible exact rfl) | (show (_ : Array Value) = _; exact rfl)))) hb3 (by first | (simp; done) | omega | (simp; omega))
  have B3 : Blk w3 (w2.heap.size) #[.bool true, .int .u64 0, .int .u64 (hi (0)), .int .u64 (lo (0)), .int .u64 0, .int .u64 10, .int .u64 (hi (6553600)), .int .u64 (lo (6553600)), .int .u64 65536, .bool false, .int .u64 60] 61 := Blk.below (by (repeat' (first | (with_reducible (first | assumption | exact Blk.alloc_new _ _ _ (by first | rfl | (simp; done) | omega) | apply Blk.drewN | apply Blk.drew | apply Blk.alloc_old | apply Blk.set_same | apply Blk.set_other)) | (show (_ : Nat) ≠ _; first | omega | (simp; done) | (simp; omega)) | ((simp only [List.setIfInBounds_toArray, List.set_cons_succ, List.set_cons_zero]); (with_reducible exact rfl)) | (with_reducible exact rfl) | (show (_ : Array Value) = _; exact rfl)))) hb3 (by first | (simp; done) | omega | (simp; omega))
  have g3 : Below w.heap.size w w3 := by refine Below.trans ?_ (hb3.mono ?_) <;> (repeat' (first | (with_reducible (first | exact Below.refl _ _ | assumption | refine below_drewN ?_ _ | refine Below.drew ?_ | refine Below.alloc ?_ ?_ _ | refine Below.setCell ?_ ?_ _)) | go_size))
  have hz3 := hb3.size
  (try simp at hz3)
  clear hb3
  replace cL := L3.cell
  replace fL := L3.frozen
  replace zL := L3.size
  replace cA := A3.cell
  replace fA := A3.frozen
  replace zA := A3.size
  have cB := B3.cell
  have fB := B3.frozen
  have zB := B3.size
  go_wp2_with fail
  refine (K3.out _).mono ?_
  rintro e w4 ⟨rfl, hb4⟩
  have L4 : Blk w4 (w.heap.size) #[.int .u64 65536, .int .u64 0, .int .u64 65536] 32 := Blk.below (by (repeat' (first | (with_reducible (first | assumption | exact Blk.alloc_new _ _ _ (by first | rfl | (simp; done) | omega) | apply Blk.drewN | apply Blk.drew | apply Blk.alloc_old | apply Blk.set_same | apply Blk.set_other)) | (show (_ : Nat) ≠ _; first | omega | (simp; done) | (simp; omega)) | ((simp only [List.setIfInBounds_toArray, List.set_cons_succ, List.set_cons_zero]); (with_reducible exact rfl)) | (with_reducible exact rfl) | (show (_ : Array Value) = _; exact rfl)))) hb4 (by first | (simp; done) | omega | (simp; omega))
  have A4 : Blk w4 (w1.heap.size) #[.bool true, .int .u64 0, .int .u64 (hi (0)), .int .u64 (lo (0)), .int .u64 0, .int .u64 10, .int .u64 (hi (6553600)), .int .u64 (lo (6553600)), .int .u64 65536, .bool false, .int .u64 0] 61 := Blk.below (by (repeat' (first | (with_reducible (first | assumption | exact Blk.alloc_new _ _ _ (by first | rfl | (simp; done) | omega) | apply Blk.drewN | apply Blk.drew | apply Blk.alloc_old | apply Blk.set_same | apply Blk.set_other)) | (show (_ : Nat) ≠ _; first | omega | (simp; done) | (simp; omega)) | ((simp only [List.setIfInBounds_toArray, List.set_cons_succ, List.set_cons_zero]); (with_reducible exact rfl)) | (with_reducible exact rfl) | (show (_ : Array Value) = _; exact rfl)))) hb4 (by first | (simp; done) | omega | (simp; omega))
  have B4 : Blk w4 (w2.heap.size) #[.bool true, .int .u64 0, .int .u64 (hi (0)), .int .u64 (lo (0)), .int .u64 0, .int .u64 10, .int .u64 (hi (6553600)), .int .u64 (lo (6553600)), .int .u64 65536, .bool false, .int .u64 60] 61 := Blk.below (by (repeat' (first | (with_reducible (first | assumption | exact Blk.alloc_new _ _ _ (by first | rfl | (simp; done) | omega) | apply Blk.drewN | apply Blk.drew | apply Blk.alloc_old | apply Blk.set_same | apply Blk.set_other)) | (show (_ : Nat) ≠ _; first | omega | (simp; done) | (simp; omega)) | ((simp only [List.setIfInBounds_toArray, List.set_cons_succ, List.set_cons_zero]); (with_reducible exact rfl)) | (with_reducible exact rfl) | (show (_ : Array Value) = _; exact rfl)))) hb4 (by first | (simp; done) | omega | (simp; omega))
  have g4 : Below w.heap.size w w4 := by refine Below.trans ?_ (hb4.mono ?_) <;> (repeat' (first | (with_reducible (first | exact Below.refl _ _ | assumption | refine below_drewN ?_ _ | refine Below.drew ?_ | refine Below.alloc ?_ ?_ _ | refine Below.setCell ?_ ?_ _)) | go_size))
  have hz4 := hb4.size
  (try simp at hz4)
  clear hb4
  replace cL := L4.cell
  replace fL := L4.frozen
  replace zL := L4.size
  replace cA := A4.cell
  replace fA := A4.frozen
  replace zA := A4.size
  replace cB := B4.cell
  replace fB := B4.frozen
  replace zB := B4.size
  go_wp2_with fail
  refine (K2.out _).mono ?_
  rintro e w5 ⟨rfl, hb5⟩
  have L5 : Blk w5 (w.heap.size) #[.int .u64 65536, .int .u64 0, .int .u64 65536] 32 := Blk.below (by (repeat' (first | (with_reducible (first | assumption | exact Blk.alloc_new _ _ _ (by first | rfl | (simp; done) | omega) | apply Blk.drewN | apply Blk.drew | apply Blk.alloc_old | apply Blk.set_same | apply Blk.set_other)) | (show (_ : Nat) ≠ _; first | omega | (simp; done) | (simp; omega)) | ((simp only [List.setIfInBounds_toArray, List.set_cons_succ, List.set_cons_zero]); (with_reducible exact rfl)) | (with_reducible exact rfl) | (show (_ : Array Value) = _; exact rfl)))) hb5 (by first | (simp; done) | omega | (simp; omega))
  have A5 : Blk w5 (w1.heap.size) #[.bool true, .int .u64 0, .int .u64 (hi (0)), .int .u64 (lo (0)), .int .u64 0, .int .u64 10, .int .u64 (hi (6553600)), .int .u64 (lo (6553600)), .int .u64 65536, .bool false, .int .u64 0] 61 := Blk.below (by (repeat' (first | (with_reducible (first | assumption | exact Blk.alloc_new _ _ _ (by first | rfl | (simp; done) | omega) | apply Blk.drewN | apply Blk.drew | apply Blk.alloc_old | apply Blk.set_same | apply Blk.set_other)) | (show (_ : Nat) ≠ _; first | omega | (simp; done) | (simp; omega)) | ((simp only [List.setIfInBounds_toArray, List.set_cons_succ, List.set_cons_zero]); (with_reducible exact rfl)) | (with_reducible exact rfl) | (show (_ : Array Value) = _; exact rfl)))) hb5 (by first | (simp; done) | omega | (simp; omega))
  have B5 : Blk w5 (w2.heap.size) #[.bool true, .int .u64 0, .int .u64 (hi (0)), .int .u64 (lo (0)), .int .u64 0, .int .u64 10, .int .u64 (hi (6553600)), .int .u64 (lo (6553600)), .int .u64 65536, .bool false, .int .u64 60] 61 := Blk.below (by (repeat' (first | (with_reducible (first | assumption | exact Blk.alloc_new _ _ _ (by first | rfl | (simp; done) | omega) | apply Blk.drewN | apply Blk.drew | apply Blk.alloc_old | apply Blk.set_same | apply Blk.set_other)) | (show (_ : Nat) ≠ _; first | omega | (simp; done) | (simp; omega)) | ((simp only [List.setIfInBounds_toArray, List.set_cons_succ, List.set_cons_zero]); (with_reducible exact rfl)) | (with_reducible exact rfl) | (show (_ : Array Value) = _; exact rfl)))) hb5 (by first | (simp; done) | omega | (simp; omega))
  have g5 : Below w.heap.size w w5 := by refine Below.trans ?_ (hb5.mono ?_) <;> (repeat' (first | (with_reducible (first | exact Below.refl _ _ | assumption | refine below_drewN ?_ _ | refine Below.drew ?_ | refine Below.alloc ?_ ?_ _ | refine Below.setCell ?_ ?_ _)) | go_size))
  have hz5 := hb5.size
  (try simp at hz5)
  clear hb5
  replace cL := L5.cell
  replace fL := L5.frozen
  replace zL := L5.size
  replace cA := A5.cell
  replace fA := A5.frozen
  replace zA := A5.size
  replace cB := B5.cell
  replace fB := B5.frozen
  replace zB := B5.size
  go_wp2
  go_ret
  exact ⟨rfl, by (repeat' (first | (with_reducible (first | exact Below.refl _ _ | assumption | refine below_drewN ?_ _ | refine Below.drew ?_ | refine Below.alloc ?_ ?_ _ | refine Below.setCell ?_ ?_ _)) | go_size))⟩
set_option maxRecDepth 100000 in
set_option maxHeartbeats 4000000 in
theorem UPT_main (c u v : CH) (m d n q0 q1 : Int) (w : World) (hm : 0 ≤ m ∧ m ≤ 18446744073709551615) (hd : 0 ≤ d ∧ d ≤ 18446744073709551615) (hn : 0 ≤ n ∧ n ≤ 18446744073709551615) (hl : 0 ≤ q0 ∧ q0 ≤ 9223372036854775808) (hp : 0 ≤ q1 ∧ q1 ≤ 18446744073709551615) (oc : c.r.ok) (ou : u.r.ok) (ov : v.r.ok) (hu : c.capped m d n q0 q1 = u) (hv : c.fit q1 = v) :
    Calls Try.prog 6 #[chv c, .agg #[.int .u64 m, .int .u64 d, .int .u64 n], .agg #[.int .u64 q0, .int .u64 q1]] w fun e w' => e = .returned (.bool true) ∧ Below w.heap.size w w' := by
  have Hu := hide hu; have Hv := hide hv; clear hu hv
  have d1 : decide (9223372036854775808 < q0) = false := decide_eq_false (by omega)
  have e2 := rupeq u ou
  have e3 := rupeq v ov
  go_enter Try.func6, Try.ntmps6
  go_wp2_with fail
  refine (ref22 c _ oc).mono ?_
  rintro e w1 ⟨rfl, hb1⟩
  have A1 : Blk w1 (w.heap.size) #[.bool c.has, .int .u64 c.r.f.X, .int .u64 (hi (c.r.f.Y)), .int .u64 (lo (c.r.f.Y)), .int .u64 c.r.f.M, .int .u64 c.r.t.X, .int .u64 (hi (c.r.t.Y)), .int .u64 (lo (c.r.t.Y)), .int .u64 c.r.t.M, .bool c.r.b, .int .u64 c.t] 61 := Blk.below (by (repeat' (first | (with_reducible (first | assumption | exact Blk.alloc_new _ _ _ (by first | rfl | (simp; done) | omega) | apply Blk.drewN | apply Blk.drew | apply Blk.alloc_old | apply Blk.set_same | apply Blk.set_other)) | (show (_ : Nat) ≠ _; first | omega | (simp; done) | (simp; omega)) | ((simp only [List.setIfInBounds_toArray, List.set_cons_succ, List.set_cons_zero]); (with_reducible exact rfl)) | (with_reducible exact rfl) | (show (_ : Array Value) = _; exact rfl)))) hb1 (by first | (simp; done) | omega | (simp; omega))
  have C1 : Blk w1 (w.heap.size + 1) #[.int .u64 m, .int .u64 d, .int .u64 n] 32 := Blk.below (by (repeat' (first | (with_reducible (first | assumption | exact Blk.alloc_new _ _ _ (by first | rfl | (simp; done) | omega) | apply Blk.drewN | apply Blk.drew | apply Blk.alloc_old | apply Blk.set_same | apply Blk.set_other)) | (show (_ : Nat) ≠ _; first | omega | (simp; done) | (simp; omega)) | ((simp only [List.setIfInBounds_toArray, List.set_cons_succ, List.set_cons_zero]); (with_reducible exact rfl)) | (with_reducible exact rfl) | (show (_ : Array Value) = _; exact rfl)))) hb1 (by first | (simp; done) | omega | (simp; omega))
  have Q1 : Blk w1 (w.heap.size + 1 + 1) #[.int .u64 q0, .int .u64 q1] 33 := Blk.below (by (repeat' (first | (with_reducible (first | assumption | exact Blk.alloc_new _ _ _ (by first | rfl | (simp; done) | omega) | apply Blk.drewN | apply Blk.drew | apply Blk.alloc_old | apply Blk.set_same | apply Blk.set_other)) | (show (_ : Nat) ≠ _; first | omega | (simp; done) | (simp; omega)) | ((simp only [List.setIfInBounds_toArray, List.set_cons_succ, List.set_cons_zero]); (with_reducible exact rfl)) | (with_reducible exact rfl) | (show (_ : Array Value) = _; exact rfl)))) hb1 (by first | (simp; done) | omega | (simp; omega))
  have g1 : Below w.heap.size w w1 := by refine Below.trans ?_ (hb1.mono ?_) <;> (repeat' (first | (with_reducible (first | exact Below.refl _ _ | assumption | refine below_drewN ?_ _ | refine Below.drew ?_ | refine Below.alloc ?_ ?_ _ | refine Below.setCell ?_ ?_ _)) | go_size))
  have hz1 := hb1.size
  (try simp at hz1)
  clear hb1
  replace cA := A1.cell
  replace fA := A1.frozen
  replace zA := A1.size
  replace cC := C1.cell
  replace fC := C1.frozen
  replace zC := C1.size
  replace cQ := Q1.cell
  replace fQ := Q1.frozen
  replace zQ := Q1.size
  go_wp2_with fail
  refine wp_forget (fun v => Below w.heap.size w v ∧ Blk v (w.heap.size) #[.bool c.has, .int .u64 c.r.f.X, .int .u64 (hi (c.r.f.Y)), .int .u64 (lo (c.r.f.Y)), .int .u64 c.r.f.M, .int .u64 c.r.t.X, .int .u64 (hi (c.r.t.Y)), .int .u64 (lo (c.r.t.Y)), .int .u64 c.r.t.M, .bool c.r.b, .int .u64 c.t] 61 ∧ Blk v (w.heap.size + 1) #[.int .u64 m, .int .u64 d, .int .u64 n] 32 ∧ Blk v (w.heap.size + 1 + 1) #[.int .u64 q0, .int .u64 q1] 33 ∧ Blk v (w1.heap.size) #[.bool c.has, .int .u64 c.r.f.X, .int .u64 (dg0 (c.r.f.Y)), .int .u64 (dg1 (c.r.f.Y)), .int .u64 (dg2 (c.r.f.Y)), .int .u64 (dg3 (c.r.f.Y)), .int .u64 c.r.f.M, .int .u64 c.r.t.X, .int .u64 (dg0 (c.r.t.Y)), .int .u64 (dg1 (c.r.t.Y)), .int .u64 (dg2 (c.r.t.Y)), .int .u64 (dg3 (c.r.t.Y)), .int .u64 c.r.t.M, .bool c.r.b, .int .u64 c.t] 63) ⟨by (repeat' (first | (with_reducible (first | exact Below.refl _ _ | assumption | refine below_drewN ?_ _ | refine Below.drew ?_ | refine Below.alloc ?_ ?_ _ | refine Below.setCell ?_ ?_ _)) | go_size)), by (repeat' (first | (with_reducible (first | assumption | exact Blk.alloc_new _ _ _ (by first | rfl | (simp; done) | omega) | apply Blk.drewN | apply Blk.drew | apply Blk.alloc_old | apply Blk.set_same | apply Blk.set_other)) | (show (_ : Nat) ≠ _; first | omega | (simp; done) | (simp; omega)) | ((simp only [List.setIfInBounds_toArray, List.set_cons_succ, List.set_cons_zero]); (with_reducible exact rfl)) | (with_reducible exact rfl) | (show (_ : Array Value) = _; exact rfl))), by (repeat' (first | (with_reducible (first | assumption | exact Blk.alloc_new _ _ _ (by first | rfl | (simp; done) | omega) | apply Blk.drewN | apply Blk.drew | apply Blk.alloc_old | apply Blk.set_same | apply Blk.set_other)) | (show (_ : Nat) ≠ _; first | omega | (simp; done) | (simp; omega)) | ((simp only [List.setIfInBounds_toArray, List.set_cons_succ, List.set_cons_zero]); (with_reducible exact rfl)) | (with_reducible exact rfl) | (show (_ : Array Value) = _; exact rfl))), by (repeat' (first | (with_reducible (first | assumption | exact Blk.alloc_new _ _ _ (by first | rfl | (simp; done) | omega) | apply Blk.drewN | apply Blk.drew | apply Blk.alloc_old | apply Blk.set_same | apply Blk.set_other)) | (show (_ : Nat) ≠ _; first | omega | (simp; done) | (simp; omega)) | ((simp only [List.setIfInBounds_toArray, List.set_cons_succ, List.set_cons_zero]); (with_reducible exact rfl)) | (with_reducible exact rfl) | (show (_ : Array Value) = _; exact rfl))), by (repeat' (first | (with_reducible (first | assumption | exact Blk.alloc_new _ _ _ (by first | rfl | (simp; done) | omega) | apply Blk.drewN | apply Blk.drew | apply Blk.alloc_old | apply Blk.set_same | apply Blk.set_other)) | (show (_ : Nat) ≠ _; first | omega | (simp; done) | (simp; omega)) | ((simp only [List.setIfInBounds_toArray, List.set_cons_succ, List.set_cons_zero]); (with_reducible exact rfl)) | (with_reducible exact rfl) | (show (_ : Array Value) = _; exact rfl)))⟩ ?_
  rintro v2 ⟨gv2, Av2, Cv2, Qv2, Wv2⟩
  have qA2 := blk_calm Av2
  have qC2 := blk_calm Cv2
  have qQ2 := blk_calm Qv2
  have qW2 := blk_calm Wv2
  refine wp_region_quiet_below (by kernel_rfl) (by kernel_rfl) ?_
  repeat (go_big_quiet_step ((first
      | (go_at_call 24; (with_reducible exact Calls.regrown_of (uwake_any c u m d n q0 q1 _ hm hd hn hl hp oc Hu.out)))
      | (go_at_call 25; (with_reducible exact Calls.regrown_of (ruwake_any c u m d n q0 q1 _ hm hd hn hl hp oc Hu.out)))
      | (go_at_call 23; (with_reducible exact Calls.regrown_of (ref22 u _ ou)))
      | (go_at_call 23; (with_reducible exact Calls.regrown_of (ref22 v _ ov)))
      | (go_at_call 26; (with_reducible exact Calls.regrown_of (utook_any c v q1 _ hp oc Hv.out)))
      | (go_at_call 27; (with_reducible exact Calls.regrown_of (rutook_any c v q1 _ hp oc Hv.out)))
      | (go_at_call 22; (with_reducible exact Calls.regrown_of (sixty_true _))))))
  refine wpQuiet_nil ?_
  intro _ hw'
  obtain ⟨pq, hw''⟩ := hw'
  subst hw''
  have hb2 := below_regrown v2 pq.d pq.os
  generalize Sort.grow (redrawn v2 pq.d) pq.os = w2 at *
  have A2 : Blk w2 (w.heap.size) #[.bool c.has, .int .u64 c.r.f.X, .int .u64 (hi (c.r.f.Y)), .int .u64 (lo (c.r.f.Y)), .int .u64 c.r.f.M, .int .u64 c.r.t.X, .int .u64 (hi (c.r.t.Y)), .int .u64 (lo (c.r.t.Y)), .int .u64 c.r.t.M, .bool c.r.b, .int .u64 c.t] 61 := Blk.below Av2 hb2 Av2.size
  have C2 : Blk w2 (w.heap.size + 1) #[.int .u64 m, .int .u64 d, .int .u64 n] 32 := Blk.below Cv2 hb2 Cv2.size
  have Q2 : Blk w2 (w.heap.size + 1 + 1) #[.int .u64 q0, .int .u64 q1] 33 := Blk.below Qv2 hb2 Qv2.size
  have W2 : Blk w2 (w1.heap.size) #[.bool c.has, .int .u64 c.r.f.X, .int .u64 (dg0 (c.r.f.Y)), .int .u64 (dg1 (c.r.f.Y)), .int .u64 (dg2 (c.r.f.Y)), .int .u64 (dg3 (c.r.f.Y)), .int .u64 c.r.f.M, .int .u64 c.r.t.X, .int .u64 (dg0 (c.r.t.Y)), .int .u64 (dg1 (c.r.t.Y)), .int .u64 (dg2 (c.r.t.Y)), .int .u64 (dg3 (c.r.t.Y)), .int .u64 c.r.t.M, .bool c.r.b, .int .u64 c.t] 63 := Blk.below Wv2 hb2 Wv2.size
  have g2 : Below w.heap.size w w2 := gv2.trans (hb2.mono gv2.size)
  have hz2 : w.heap.size ≤ w2.heap.size := g2.size
  clear hb2 gv2 Av2 qA2 Cv2 qC2 Qv2 qQ2 Wv2 qW2
  replace cA := A2.cell
  replace fA := A2.frozen
  replace zA := A2.size
  replace cC := C2.cell
  replace fC := C2.frozen
  replace zC := C2.size
  replace cQ := Q2.cell
  replace fQ := Q2.frozen
  replace zQ := Q2.size
  replace cW := W2.cell
  replace fW := W2.frozen
  replace zW := W2.size
  go_wp2
  go_ret
  exact ⟨rfl, by (repeat' (first | (with_reducible (first | exact Below.refl _ _ | assumption | refine below_drewN ?_ _ | refine Below.drew ?_ | refine Below.alloc ?_ ?_ _ | refine Below.setCell ?_ ?_ _)) | go_size))⟩
theorem UPT_out (c : CH) (m d n q0 q1 : Int) (w : World) (hl : 9223372036854775808 < q0) :
    Calls Try.prog 6 #[chv c, .agg #[.int .u64 m, .int .u64 d, .int .u64 n], .agg #[.int .u64 q0, .int .u64 q1]] w fun e w' => e = .returned (.bool true) ∧ Below w.heap.size w w' := by
  have d1 : decide (9223372036854775808 < q0) = true := decide_eq_true hl
  go_enter Try.func6, Try.ntmps6
  go_wp2_with fail
  refine (sixty_true _).mono ?_
  rintro e w1 ⟨rfl, hb1⟩
  have g1 : Below w.heap.size w w1 := by refine Below.trans ?_ (hb1.mono ?_) <;> (repeat' (first | (with_reducible (first | exact Below.refl _ _ | assumption | refine below_drewN ?_ _ | refine Below.drew ?_ | refine Below.alloc ?_ ?_ _ | refine Below.setCell ?_ ?_ _)) | go_size))
  have hz1 := hb1.size
  (try simp at hz1)
  clear hb1
  go_wp2
  go_ret
  exact ⟨rfl, by (repeat' (first | (with_reducible (first | exact Below.refl _ _ | assumption | refine below_drewN ?_ _ | refine Below.drew ?_ | refine Below.alloc ?_ ?_ _ | refine Below.setCell ?_ ?_ _)) | go_size))⟩
theorem CH.capped_ok {c : CH} {m d n now p : Int} (hm : 0 ≤ m ∧ m ≤ 18446744073709551615) (hd : 0 ≤ d) (hn : 0 ≤ n ∧ n ≤ 18446744073709551615) (hl : 0 ≤ now ∧ now ≤ 9223372036854775808) (hp : 0 ≤ p ∧ p ≤ 18446744073709551615) (oc : c.r.ok) : (c.capped m d n now p).r.ok := by
  have os := RN.start_ok (m := m) (d := d) (n := n) (x := now) (y := p * 65536) hm hd hn hl (un_in hp)
  unfold CH.capped
  split
  · unfold CH.zero RN.ok LN.ok In128; simp
  · show RN.ok (if c.has then RN.meet c.r (RN.start m d n now (p * 65536)) else RN.start m d n now (p * 65536))
    split
    · exact RN.meet_ok oc os
    · exact os
theorem CH.fit_ok {c : CH} {p : Int} (oc : c.r.ok) : (c.fit p).r.ok := by
  unfold CH.fit; split <;> exact oc
theorem UpperTells_walk (a0 : Bool) (a1 : Int) (ha1 : 0 ≤ a1 ∧ a1 ≤ 18446744073709551615) (a2 : Int) (ha2 : 0 ≤ a2 ∧ a2 ≤ 18446744073709551615) (a3 : Int) (ha3 : 0 ≤ a3 ∧ a3 ≤ 18446744073709551615) (a4 : Int) (ha4 : 0 ≤ a4 ∧ a4 ≤ 18446744073709551615) (a5 : Int) (ha5 : 0 ≤ a5 ∧ a5 ≤ 18446744073709551615) (a6 : Int) (ha6 : 0 ≤ a6 ∧ a6 ≤ 18446744073709551615) (a7 : Int) (ha7 : 0 ≤ a7 ∧ a7 ≤ 18446744073709551615) (a8 : Int) (ha8 : 0 ≤ a8 ∧ a8 ≤ 18446744073709551615) (a9 : Bool) (a10 : Int) (ha10 : 0 ≤ a10 ∧ a10 ≤ 18446744073709551615) (m : Int) (hm : 0 ≤ m ∧ m ≤ 18446744073709551615) (d : Int) (hd : 0 ≤ d ∧ d ≤ 18446744073709551615) (n : Int) (hn : 0 ≤ n ∧ n ≤ 18446744073709551615) (q0 : Int) (hq0 : 0 ≤ q0 ∧ q0 ≤ 18446744073709551615) (q1 : Int) (hq1 : 0 ≤ q1 ∧ q1 ≤ 18446744073709551615) (w : World) :
    Calls Try.prog 6 #[.agg #[.bool a0, .int .u64 a1, .int .u64 a2, .int .u64 a3, .int .u64 a4, .int .u64 a5, .int .u64 a6, .int .u64 a7, .int .u64 a8, .bool a9, .int .u64 a10], .agg #[.int .u64 m, .int .u64 d, .int .u64 n], .agg #[.int .u64 q0, .int .u64 q1]] w fun e w' => e = .returned (.bool true) ∧ Below w.heap.size w w' := by
  obtain ⟨Y1, hY1, rfl, rfl⟩ := wv_of ha2 ha3
  obtain ⟨Y2, hY2, rfl, rfl⟩ := wv_of ha6 ha7
  have oc : RN.ok ⟨⟨a1, Y1, a4⟩, ⟨a5, Y2, a8⟩, a9⟩ := ⟨⟨ha1, hY1, ha4⟩, ha5, hY2, ha8⟩
  by_cases h : 9223372036854775808 < q0
  · exact UPT_out ⟨a0, ⟨⟨a1, Y1, a4⟩, ⟨a5, Y2, a8⟩, a9⟩, a10⟩ m d n q0 q1 w h
  · exact UPT_main ⟨a0, ⟨⟨a1, Y1, a4⟩, ⟨a5, Y2, a8⟩, a9⟩, a10⟩ _ _ m d n q0 q1 w hm hd hn ⟨hq0.1, by omega⟩ hq1 oc (CH.capped_ok hm hd.1 hn ⟨hq0.1, by omega⟩ hq1 oc) (CH.fit_ok oc) rfl rfl
namespace upperTellsDone
theorem own : ownKnob Try.prog.godebug = none := by kernel_rfl
theorem laidOut : laidOutB Try.prog = true := by kernel_rfl
set_option maxRecDepth 100000 in
theorem lifted (os : Os) (started : os.Started) (H : Type) (enc : TypeId × Value → H) :
    ReturnsInHanded {} Try.checked os 6 .any (Rows.upperTellsSpec.pre6 enc Try.prog Try.f6 Rows.upperTellsRow.domain false) (Rows.upperTellsSpec.post enc Try.prog Try.f6 false true false false) := by
  refine returnsInHanded_of_change (C := Try.checked) own started (by kernel_rfl) Try.func6
    (ChangeSpec.witness6 (enc := enc) (C := Try.checked) false ⟨#[], #[.agg #[.bool false, .int .u64 0, .int .u64 0, .int .u64 0, .int .u64 0, .int .u64 0, .int .u64 0, .int .u64 0, .int .u64 0, .bool false, .int .u64 0], .agg #[.int .u64 0, .int .u64 0, .int .u64 0], .agg #[.int .u64 0, .int .u64 0]], []⟩ 8 (by kernel_rfl) (by kernel_rfl) (by kernel_rfl) (by kernel_rfl)) ?_
  intro W base args ds gs before hval0 hW hcnd _
  have hval : ∀ (j : Nat) t v, Try.f6.params[j]? = some t → args[j]? = some v → Value.okWide Try.prog W .any base t v := hval0
  have hW' := hW
  obtain ⟨p, q, hA0, hV, rfl, hfz, hnd⟩ := hW
  have hA : DataW.TrodAll enc Try.prog W 0 (fun _ => true) true Try.f6.params.toList args.toList ds p := hA0
  rw [Try.params6] at hA hval
  obtain ⟨v0, vs0, d0, ds0, p0, q0, hargs, rfl, rfl, h0, r0⟩ := trodAll_cons hA
  obtain ⟨v1, vs1, d1, ds1, p1, q1, rfl, rfl, rfl, h1, r1⟩ := trodAll_cons r0
  obtain ⟨v2, vs2, d2, ds2, p2, q2, rfl, rfl, rfl, h2, r2⟩ := trodAll_cons r1
  obtain ⟨rfl, rfl, rfl⟩ := trodAll_nil r2
  obtain rfl : args = #[v0, v1, v2] := by cases args; simp_all
  obtain ⟨rfl, rfl⟩ := trodVars_none hV
  have k0 := h0
  have lt0 : ∀ x ∈ p0, x.block < W.heap.size := by obtain ⟨m, hm⟩ := k0; exact DataW.trod_lt m _ _ _ hm
  obtain ⟨a0_0, a0_1, a0_2, a0_3, a0_4, a0_5, a0_6, a0_7, a0_8, a0_9, a0_10, rfl, b0_1, b0_2, b0_3, b0_4, b0_5, b0_6, b0_7, b0_8, b0_10⟩ := open_child (hval 0 61 v0 rfl rfl) h0
  have k1 := h1
  have lt1 : ∀ x ∈ p1, x.block < W.heap.size := by obtain ⟨m, hm⟩ := k1; exact DataW.trod_lt m _ _ _ hm
  obtain ⟨x1_0, x1_1, x1_2, y1_0, y1_1, y1_2, m1, rfl, hd1, hp1, q1_0, q1_1, q1_2⟩ := Joins.open_agg3 Try.underlying32 (by kernel_rfl) (show Try.prog.cellsOf 32 = 3 by kernel_rfl) (hval 1 32 v1 rfl rfl) h1
  obtain ⟨a1_0, e1_0, _, wf1_0⟩ := DataW.trod_int Try.underlying22 q1_0
  simp at e1_0
  subst e1_0
  have b1_0 := bounds_u64 wf1_0
  obtain ⟨a1_1, e1_1, _, wf1_1⟩ := DataW.trod_int Try.underlying22 q1_1
  simp at e1_1
  subst e1_1
  have b1_1 := bounds_u64 wf1_1
  obtain ⟨a1_2, e1_2, _, wf1_2⟩ := DataW.trod_int Try.underlying22 q1_2
  simp at e1_2
  subst e1_2
  have b1_2 := bounds_u64 wf1_2
  have k2 := h2
  have lt2 : ∀ x ∈ p2, x.block < W.heap.size := by obtain ⟨m, hm⟩ := k2; exact DataW.trod_lt m _ _ _ hm
  obtain ⟨a2_0, a2_1, rfl, wf2_0, wf2_1⟩ := open_arr2 Try.underlying33 Try.underlying22 (by kernel_rfl) (by kernel_rfl) (hval 2 33 v2 rfl rfl) h2
  have b2_0 := bounds_u64 wf2_0
  have b2_1 := bounds_u64 wf2_1
  clear hA0 hval0
  refine (UpperTells_walk a0_0 a0_1 b0_1 a0_2 b0_2 a0_3 b0_3 a0_4 b0_4 a0_5 b0_5 a0_6 b0_6 a0_7 b0_7 a0_8 b0_8 a0_9 a0_10 b0_10 a1_0 b1_0 a1_1 b1_1 a1_2 b1_2 a2_0 b2_0 a2_1 b2_1 W).mono fun e W' ⟨he, bel⟩ => ?_
  subst he
  exact ⟨_, rfl, _, _, _, [], _, [], hW', trodAll_mk1 (shut_bool Try.underlying4 _), (trodAll_cons_mk (Below.trod laidOut (by kernel_rfl) (of_decide_eq_true (by kernel_rfl)) k0 bel lt0) (trodAll_cons_mk (Below.trod laidOut (by kernel_rfl) (of_decide_eq_true (by kernel_rfl)) k1 bel lt1) (trodAll_cons_mk (Below.trod laidOut (by kernel_rfl) (of_decide_eq_true (by kernel_rfl)) k2 bel lt2) trodAll_mk0))), rfl, bel.frame _, fun h => by cases h⟩
theorem over : Rows.upperTellsRow.holds Try.pinned (OpenSpec.ofChange Rows.upperTellsSpec) :=
  OpenClaim.holds_of_wide 6 Try.f6 rfl rfl rfl rfl rfl rfl rfl ⟨rfl, rfl, rfl, rfl, rfl⟩ rfl rfl rfl rfl rfl (by kernel_rfl) Try.func6 (by kernel_rfl)
    (of_decide_eq_true (by kernel_rfl)) (by unfold Func.isWrapper; first | (rw [if_pos (by decide +kernel)]; kernel_rfl) | (rw [if_neg (by decide +kernel)]; exact ⟨rfl, rfl⟩))
    (fun os started H enc _ => lifted os started H enc)
end upperTellsDone
theorem UpperTells_holds : Rows.UpperTellsSaid := upperTellsDone.over

end Go.Proofs.Ytnkpoelljfbefaa
