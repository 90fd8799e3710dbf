/-
  The statement RealTells: what any wake, and any pick, make of any leaf's dues. Conditions: none.
-/
import Derived.Test.YtaaoadbcgnedkaaRealT
import Derived.Test.YtaaoadbcgnedkaaFrame
namespace Go.Proofs.Ytaaoadbcgnedkaa
open Go.ChangeShapes Go.WideShapes Go.ChangeAt Go.RowKit
open Go.Sort
set_option linter.unusedVariables false
set_option linter.unusedSimpArgs false
theorem leaflist2 {α : Type} {l : List α} (h : l.length = 2) : ∃ a0 a1, l = [a0, a1] := by
  match l, h with
  | [a0, a1], _ => exact ⟨a0, a1, rfl⟩
theorem leaflist3 {α : Type} {l : List α} (h : l.length = 3) : ∃ a0 a1 a2, l = [a0, a1, a2] := by
  match l, h with
  | [a0, a1, a2], _ => exact ⟨a0, a1, a2, rfl⟩
theorem leaflist6 {α : Type} {l : List α} (h : l.length = 6) : ∃ a0 a1 a2 a3 a4 a5, l = [a0, a1, a2, a3, a4, a5] := by
  match l, h with
  | [a0, a1, a2, a3, a4, a5], _ => exact ⟨a0, a1, a2, a3, a4, a5, rfl⟩
theorem leaflist22 {α : Type} {l : List α} (h : l.length = 22) : ∃ a0 a1 a2 a3 a4 a5 a6 a7 a8 a9 a10 a11 a12 a13 a14 a15 a16 a17 a18 a19 a20 a21, l = [a0, a1, a2, a3, a4, a5, a6, a7, a8, a9, a10, a11, a12, a13, a14, a15, a16, a17, a18, a19, a20, a21] := by
  match l, h with
  | [a0, a1, a2, a3, a4, a5, a6, a7, a8, a9, a10, a11, a12, a13, a14, a15, a16, a17, a18, a19, a20, a21], _ => exact ⟨a0, a1, a2, a3, a4, a5, a6, a7, a8, a9, a10, a11, a12, a13, a14, a15, a16, a17, a18, a19, a20, a21, rfl⟩
theorem cells_leaf {H : Type} {w : World} {base : Nat} {spare : Nat → Bool} {held : Bool} {enc : TypeId × Value → H} {fuel : Nat} {c0 c1 c2 c3 c4 c5 c6 c7 c8 c9 c10 c11 c12 c13 c14 c15 c16 c17 c18 c19 c20 c21 : Value} {x : DataW H × List MemPlace} (hf : DataW.trod enc Try.prog w base spare held fuel 65 [c0, c1, c2, c3, c4, c5, c6, c7, c8, c9, c10, c11, c12, c13, c14, c15, c16, c17, c18, c19, c20, c21] = some x) :
    ∃ (x0 : Bool) (x1 : Int) (x2 : Int) (x3 : Int) (x4 : Int) (x5 : Int) (x6 : Int) (x7 : Int) (x8 : Int) (x9 : Bool) (x10 : Int) (x11 : Int) (x12 : Int) (x13 : Int) (x14 : Int) (x15 : Int) (x16 : Int) (x17 : Int) (x18 : Bool) (x19 : Int) (x20 : Int) (x21 : Int), [c0, c1, c2, c3, c4, c5, c6, c7, c8, c9, c10, c11, c12, c13, c14, c15, c16, c17, c18, c19, c20, c21] = [.bool x0, .int .u64 x1, .int .u64 x2, .int .u64 x3, .int .u64 x4, .int .u64 x5, .int .u64 x6, .int .u64 x7, .int .u64 x8, .bool x9, .int .u64 x10, .int .u64 x11, .int .u64 x12, .int .u64 x13, .int .u64 x14, .int .u64 x15, .int .u64 x16, .int .u64 x17, .bool x18, .int .u64 x19, .int .u64 x20, .int .u64 x21] ∧ (0 ≤ x1 ∧ x1 ≤ 18446744073709551615) ∧ (0 ≤ x2 ∧ x2 ≤ 18446744073709551615) ∧ (0 ≤ x3 ∧ x3 ≤ 18446744073709551615) ∧ (0 ≤ x4 ∧ x4 ≤ 18446744073709551615) ∧ (0 ≤ x5 ∧ x5 ≤ 18446744073709551615) ∧ (0 ≤ x6 ∧ x6 ≤ 18446744073709551615) ∧ (0 ≤ x7 ∧ x7 ≤ 18446744073709551615) ∧ (0 ≤ x8 ∧ x8 ≤ 18446744073709551615) ∧ (0 ≤ x10 ∧ x10 ≤ 18446744073709551615) ∧ (0 ≤ x11 ∧ x11 ≤ 18446744073709551615) ∧ (0 ≤ x12 ∧ x12 ≤ 18446744073709551615) ∧ (0 ≤ x13 ∧ x13 ≤ 18446744073709551615) ∧ (0 ≤ x14 ∧ x14 ≤ 18446744073709551615) ∧ (0 ≤ x15 ∧ x15 ≤ 18446744073709551615) ∧ (0 ≤ x16 ∧ x16 ≤ 18446744073709551615) ∧ (0 ≤ x17 ∧ x17 ≤ 18446744073709551615) ∧ (0 ≤ x19 ∧ x19 ≤ 18446744073709551615) ∧ (0 ≤ x20 ∧ x20 ≤ 18446744073709551615) ∧ (0 ≤ x21 ∧ x21 ≤ 18446744073709551615) := by
  have k0 : Try.prog.cellsOf 65 = 22 := by kernel_rfl
  have k1 : Try.prog.cellsOf 4 = 1 := by kernel_rfl
  have k2 : Try.prog.cellsOf 40 = 9 := by kernel_rfl
  have k3 : Try.prog.cellsOf 38 = 4 := by kernel_rfl
  have k4 : Try.prog.cellsOf 22 = 1 := by kernel_rfl
  have k5 : Try.prog.cellsOf 26 = 2 := by kernel_rfl
  obtain ⟨ys0, m0, _, _, _, hl0, hx0⟩ := DataW.trod_struct Try.underlying65 hf
  obtain ⟨y0_0, y0_1, y0_2, y0_3, y0_4, y0_5, rfl⟩ := leaflist6 hl0
  have q0_0 := hx0 0 _ rfl
  have q0_1 := hx0 1 _ rfl
  have q0_2 := hx0 2 _ rfl
  have q0_3 := hx0 3 _ rfl
  have q0_4 := hx0 4 _ rfl
  have q0_5 := hx0 5 _ rfl
  simp [k1, k2, k4] at q0_0 q0_1 q0_2 q0_3 q0_4 q0_5
  obtain ⟨x0, e0, _⟩ := DataW.trod_bool Try.underlying4 q0_0
  obtain ⟨ys1, m1, _, _, _, hl1, hx1⟩ := DataW.trod_struct Try.underlying40 q0_1
  obtain ⟨y1_0, y1_1, y1_2, rfl⟩ := leaflist3 hl1
  have q1_0 := hx1 0 _ rfl
  have q1_1 := hx1 1 _ rfl
  have q1_2 := hx1 2 _ rfl
  simp [k1, k3] at q1_0 q1_1 q1_2
  obtain ⟨ys2, m2, _, _, _, hl2, hx2⟩ := DataW.trod_struct Try.underlying38 q1_0
  obtain ⟨y2_0, y2_1, y2_2, rfl⟩ := leaflist3 hl2
  have q2_0 := hx2 0 _ rfl
  have q2_1 := hx2 1 _ rfl
  have q2_2 := hx2 2 _ rfl
  simp [k4, k5] at q2_0 q2_1 q2_2
  obtain ⟨x1, e1, _, w1⟩ := DataW.trod_int Try.underlying22 q2_0
  obtain ⟨ys3, m3, _, _, _, hl3, hx3⟩ := DataW.trod_struct Try.underlying26 q2_1
  obtain ⟨y3_0, y3_1, rfl⟩ := leaflist2 hl3
  have q3_0 := hx3 0 _ rfl
  have q3_1 := hx3 1 _ rfl
  simp [k4] at q3_0 q3_1
  obtain ⟨x2, e2, _, w2⟩ := DataW.trod_int Try.underlying22 q3_0
  obtain ⟨x3, e3, _, w3⟩ := DataW.trod_int Try.underlying22 q3_1
  obtain ⟨x4, e4, _, w4⟩ := DataW.trod_int Try.underlying22 q2_2
  obtain ⟨ys4, m4, _, _, _, hl4, hx4⟩ := DataW.trod_struct Try.underlying38 q1_1
  obtain ⟨y4_0, y4_1, y4_2, rfl⟩ := leaflist3 hl4
  have q4_0 := hx4 0 _ rfl
  have q4_1 := hx4 1 _ rfl
  have q4_2 := hx4 2 _ rfl
  simp [k4, k5] at q4_0 q4_1 q4_2
  obtain ⟨x5, e5, _, w5⟩ := DataW.trod_int Try.underlying22 q4_0
  obtain ⟨ys5, m5, _, _, _, hl5, hx5⟩ := DataW.trod_struct Try.underlying26 q4_1
  obtain ⟨y5_0, y5_1, rfl⟩ := leaflist2 hl5
  have q5_0 := hx5 0 _ rfl
  have q5_1 := hx5 1 _ rfl
  simp [k4] at q5_0 q5_1
  obtain ⟨x6, e6, _, w6⟩ := DataW.trod_int Try.underlying22 q5_0
  obtain ⟨x7, e7, _, w7⟩ := DataW.trod_int Try.underlying22 q5_1
  obtain ⟨x8, e8, _, w8⟩ := DataW.trod_int Try.underlying22 q4_2
  obtain ⟨x9, e9, _⟩ := DataW.trod_bool Try.underlying4 q1_2
  obtain ⟨ys6, m6, _, _, _, hl6, hx6⟩ := DataW.trod_struct Try.underlying40 q0_2
  obtain ⟨y6_0, y6_1, y6_2, rfl⟩ := leaflist3 hl6
  have q6_0 := hx6 0 _ rfl
  have q6_1 := hx6 1 _ rfl
  have q6_2 := hx6 2 _ rfl
  simp [k1, k3] at q6_0 q6_1 q6_2
  obtain ⟨ys7, m7, _, _, _, hl7, hx7⟩ := DataW.trod_struct Try.underlying38 q6_0
  obtain ⟨y7_0, y7_1, y7_2, rfl⟩ := leaflist3 hl7
  have q7_0 := hx7 0 _ rfl
  have q7_1 := hx7 1 _ rfl
  have q7_2 := hx7 2 _ rfl
  simp [k4, k5] at q7_0 q7_1 q7_2
  obtain ⟨x10, e10, _, w10⟩ := DataW.trod_int Try.underlying22 q7_0
  obtain ⟨ys8, m8, _, _, _, hl8, hx8⟩ := DataW.trod_struct Try.underlying26 q7_1
  obtain ⟨y8_0, y8_1, rfl⟩ := leaflist2 hl8
  have q8_0 := hx8 0 _ rfl
  have q8_1 := hx8 1 _ rfl
  simp [k4] at q8_0 q8_1
  obtain ⟨x11, e11, _, w11⟩ := DataW.trod_int Try.underlying22 q8_0
  obtain ⟨x12, e12, _, w12⟩ := DataW.trod_int Try.underlying22 q8_1
  obtain ⟨x13, e13, _, w13⟩ := DataW.trod_int Try.underlying22 q7_2
  obtain ⟨ys9, m9, _, _, _, hl9, hx9⟩ := DataW.trod_struct Try.underlying38 q6_1
  obtain ⟨y9_0, y9_1, y9_2, rfl⟩ := leaflist3 hl9
  have q9_0 := hx9 0 _ rfl
  have q9_1 := hx9 1 _ rfl
  have q9_2 := hx9 2 _ rfl
  simp [k4, k5] at q9_0 q9_1 q9_2
  obtain ⟨x14, e14, _, w14⟩ := DataW.trod_int Try.underlying22 q9_0
  obtain ⟨ys10, m10, _, _, _, hl10, hx10⟩ := DataW.trod_struct Try.underlying26 q9_1
  obtain ⟨y10_0, y10_1, rfl⟩ := leaflist2 hl10
  have q10_0 := hx10 0 _ rfl
  have q10_1 := hx10 1 _ rfl
  simp [k4] at q10_0 q10_1
  obtain ⟨x15, e15, _, w15⟩ := DataW.trod_int Try.underlying22 q10_0
  obtain ⟨x16, e16, _, w16⟩ := DataW.trod_int Try.underlying22 q10_1
  obtain ⟨x17, e17, _, w17⟩ := DataW.trod_int Try.underlying22 q9_2
  obtain ⟨x18, e18, _⟩ := DataW.trod_bool Try.underlying4 q6_2
  obtain ⟨x19, e19, _, w19⟩ := DataW.trod_int Try.underlying22 q0_3
  obtain ⟨x20, e20, _, w20⟩ := DataW.trod_int Try.underlying22 q0_4
  obtain ⟨x21, e21, _, w21⟩ := DataW.trod_int Try.underlying22 q0_5
  simp at e0 e1 e2 e3 e4 e5 e6 e7 e8 e9 e10 e11 e12 e13 e14 e15 e16 e17 e18 e19 e20 e21
  subst e0 e1 e2 e3 e4 e5 e6 e7 e8 e9 e10 e11 e12 e13 e14 e15 e16 e17 e18 e19 e20 e21
  exact ⟨x0, x1, x2, x3, x4, x5, x6, x7, x8, x9, x10, x11, x12, x13, x14, x15, x16, x17, x18, x19, x20, x21, rfl, bounds_u64 w1, bounds_u64 w2, bounds_u64 w3, bounds_u64 w4, bounds_u64 w5, bounds_u64 w6, bounds_u64 w7, bounds_u64 w8, bounds_u64 w10, bounds_u64 w11, bounds_u64 w12, bounds_u64 w13, bounds_u64 w14, bounds_u64 w15, bounds_u64 w16, bounds_u64 w17, bounds_u64 w19, bounds_u64 w20, bounds_u64 w21⟩
set_option maxRecDepth 100000 in
theorem open_leaf {H : Type} {w : World} {base : Nat} {spare : Nat → Bool} {held : Bool} {enc : TypeId × Value → H} {r : Reach} {b0 : Nat} {v : Value} {d : DataW H} {p : List MemPlace} (hv : Value.okWide Try.prog w r b0 65 v) (h : DataW.Trod enc Try.prog w base spare held 65 v d p) :
    ∃ (x0 : Bool) (x1 : Int) (x2 : Int) (x3 : Int) (x4 : Int) (x5 : Int) (x6 : Int) (x7 : Int) (x8 : Int) (x9 : Bool) (x10 : Int) (x11 : Int) (x12 : Int) (x13 : Int) (x14 : Int) (x15 : Int) (x16 : Int) (x17 : Int) (x18 : Bool) (x19 : Int) (x20 : Int) (x21 : Int), v = .agg #[.bool x0, .int .u64 x1, .int .u64 x2, .int .u64 x3, .int .u64 x4, .int .u64 x5, .int .u64 x6, .int .u64 x7, .int .u64 x8, .bool x9, .int .u64 x10, .int .u64 x11, .int .u64 x12, .int .u64 x13, .int .u64 x14, .int .u64 x15, .int .u64 x16, .int .u64 x17, .bool x18, .int .u64 x19, .int .u64 x20, .int .u64 x21] ∧ (0 ≤ x1 ∧ x1 ≤ 18446744073709551615) ∧ (0 ≤ x2 ∧ x2 ≤ 18446744073709551615) ∧ (0 ≤ x3 ∧ x3 ≤ 18446744073709551615) ∧ (0 ≤ x4 ∧ x4 ≤ 18446744073709551615) ∧ (0 ≤ x5 ∧ x5 ≤ 18446744073709551615) ∧ (0 ≤ x6 ∧ x6 ≤ 18446744073709551615) ∧ (0 ≤ x7 ∧ x7 ≤ 18446744073709551615) ∧ (0 ≤ x8 ∧ x8 ≤ 18446744073709551615) ∧ (0 ≤ x10 ∧ x10 ≤ 18446744073709551615) ∧ (0 ≤ x11 ∧ x11 ≤ 18446744073709551615) ∧ (0 ≤ x12 ∧ x12 ≤ 18446744073709551615) ∧ (0 ≤ x13 ∧ x13 ≤ 18446744073709551615) ∧ (0 ≤ x14 ∧ x14 ≤ 18446744073709551615) ∧ (0 ≤ x15 ∧ x15 ≤ 18446744073709551615) ∧ (0 ≤ x16 ∧ x16 ≤ 18446744073709551615) ∧ (0 ≤ x17 ∧ x17 ≤ 18446744073709551615) ∧ (0 ≤ x19 ∧ x19 ≤ 18446744073709551615) ∧ (0 ≤ x20 ∧ x20 ≤ 18446744073709551615) ∧ (0 ≤ x21 ∧ x21 ≤ 18446744073709551615) := by
  obtain ⟨cs, rfl, hsz⟩ := okWide_struct Try.underlying65 hv
  obtain ⟨l⟩ := cs
  obtain ⟨c0, c1, c2, c3, c4, c5, c6, c7, c8, c9, c10, c11, c12, c13, c14, c15, c16, c17, c18, c19, c20, c21, rfl⟩ := leaflist22 (l := l) (hsz.trans (show Try.prog.cellsOf 65 = 22 by kernel_rfl))
  obtain ⟨fuel, hf⟩ := h
  obtain ⟨x0, x1, x2, x3, x4, x5, x6, x7, x8, x9, x10, x11, x12, x13, x14, x15, x16, x17, x18, x19, x20, x21, e, bs⟩ := cells_leaf (x := (d, p)) (show DataW.trod enc Try.prog w base spare held fuel 65 [c0, c1, c2, c3, c4, c5, c6, c7, c8, c9, c10, c11, c12, c13, c14, c15, c16, c17, c18, c19, c20, c21] = some (d, p) by simpa [Value.cells] using hf)
  simp at e
  obtain ⟨rfl, rfl, rfl, rfl, rfl, rfl, rfl, rfl, rfl, rfl, rfl, rfl, rfl, rfl, rfl, rfl, rfl, rfl, rfl, rfl, rfl, rfl⟩ := e
  exact ⟨x0, x1, x2, x3, x4, x5, x6, x7, x8, x9, x10, x11, x12, x13, x14, x15, x16, x17, x18, x19, x20, x21, rfl, bs⟩
theorem call20list4 {α : Type} {l : List α} (h : l.length = 4) : ∃ a0 a1 a2 a3, l = [a0, a1, a2, a3] := by
  match l, h with
  | [a0, a1, a2, a3], _ => exact ⟨a0, a1, a2, a3, rfl⟩
theorem cells_call20 {H : Type} {w : World} {base : Nat} {spare : Nat → Bool} {held : Bool} {enc : TypeId × Value → H} {fuel : Nat} {c0 c1 c2 c3 : Value} {x : DataW H × List MemPlace} (hf : DataW.trod enc Try.prog w base spare held fuel 67 [c0, c1, c2, c3] = some x) :
    ∃ (x0 : Int) (x1 : Int) (x2 : Int) (x3 : Int), [c0, c1, c2, c3] = [.int .i64 x0, .int .u64 x1, .int .i64 x2, .int .i64 x3] ∧ (-9223372036854775808 ≤ x0 ∧ x0 ≤ 9223372036854775807) ∧ (0 ≤ x1 ∧ x1 ≤ 18446744073709551615) ∧ (-9223372036854775808 ≤ x2 ∧ x2 ≤ 9223372036854775807) ∧ (-9223372036854775808 ≤ x3 ∧ x3 ≤ 9223372036854775807) := by
  have k0 : Try.prog.cellsOf 67 = 4 := by kernel_rfl
  have k1 : Try.prog.cellsOf 3 = 1 := by kernel_rfl
  have k2 : Try.prog.cellsOf 22 = 1 := by kernel_rfl
  obtain ⟨ys0, m0, _, _, _, hl0, hx0⟩ := DataW.trod_struct Try.underlying67 hf
  obtain ⟨y0_0, y0_1, y0_2, y0_3, rfl⟩ := call20list4 hl0
  have q0_0 := hx0 0 _ rfl
  have q0_1 := hx0 1 _ rfl
  have q0_2 := hx0 2 _ rfl
  have q0_3 := hx0 3 _ rfl
  simp [k1, k2] at q0_0 q0_1 q0_2 q0_3
  obtain ⟨x0, e0, _, w0⟩ := DataW.trod_int Try.underlying3 q0_0
  obtain ⟨x1, e1, _, w1⟩ := DataW.trod_int Try.underlying22 q0_1
  obtain ⟨x2, e2, _, w2⟩ := DataW.trod_int Try.underlying3 q0_2
  obtain ⟨x3, e3, _, w3⟩ := DataW.trod_int Try.underlying3 q0_3
  simp at e0 e1 e2 e3
  subst e0 e1 e2 e3
  exact ⟨x0, x1, x2, x3, rfl, bounds_i64 w0, bounds_u64 w1, bounds_i64 w2, bounds_i64 w3⟩
set_option maxRecDepth 100000 in
theorem open_call20 {H : Type} {w : World} {base : Nat} {spare : Nat → Bool} {held : Bool} {enc : TypeId × Value → H} {r : Reach} {b0 : Nat} {v : Value} {d : DataW H} {p : List MemPlace} (hv : Value.okWide Try.prog w r b0 67 v) (h : DataW.Trod enc Try.prog w base spare held 67 v d p) :
    ∃ (x0 : Int) (x1 : Int) (x2 : Int) (x3 : Int), v = .agg #[.int .i64 x0, .int .u64 x1, .int .i64 x2, .int .i64 x3] ∧ (-9223372036854775808 ≤ x0 ∧ x0 ≤ 9223372036854775807) ∧ (0 ≤ x1 ∧ x1 ≤ 18446744073709551615) ∧ (-9223372036854775808 ≤ x2 ∧ x2 ≤ 9223372036854775807) ∧ (-9223372036854775808 ≤ x3 ∧ x3 ≤ 9223372036854775807) := by
  obtain ⟨cs, rfl, hsz⟩ := okWide_struct Try.underlying67 hv
  obtain ⟨l⟩ := cs
  obtain ⟨c0, c1, c2, c3, rfl⟩ := call20list4 (l := l) (hsz.trans (show Try.prog.cellsOf 67 = 4 by kernel_rfl))
  obtain ⟨fuel, hf⟩ := h
  obtain ⟨x0, x1, x2, x3, e, bs⟩ := cells_call20 (x := (d, p)) (show DataW.trod enc Try.prog w base spare held fuel 67 [c0, c1, c2, c3] = some (d, p) by simpa [Value.cells] using hf)
  simp at e
  obtain ⟨rfl, rfl, rfl, rfl⟩ := e
  exact ⟨x0, x1, x2, x3, rfl, bs⟩
set_option maxRecDepth 100000 in
set_option maxHeartbeats 8000000 in
theorem RT_main (l u v z : LF) (m d n k x s h : Int) (w : World) (hm : 0 ≤ m ∧ m ≤ 18446744073709551615) (hd : 0 ≤ d ∧ d ≤ 18446744073709551615) (hn : 0 ≤ n ∧ n ≤ 18446744073709551615) (hx : 0 ≤ x ∧ x ≤ 9223372036854775808) (hs : -9223372036854775808 ≤ s ∧ s ≤ 9223372036854775807) (hh : -9223372036854775808 ≤ h ∧ h ≤ 9223372036854775807) (ol : l.ok) (ou : u.ok) (ov : v.ok) (oz : z.ok) (hu : (l.woke m d n x).headed h = u) (hv : l.took s h = v) (hz : l.headed h = z) :
    Calls Try.prog 8 #[leafv l, .agg #[.int .u64 m, .int .u64 d, .int .u64 n], .agg #[.int .i64 k, .int .u64 x, .int .i64 s, .int .i64 h]] w fun e w' => e = .returned (.bool true) ∧ Below w.heap.size w w' := by
  have Hu := hide hu; have Hv := hide hv; have Hz := hide hz; clear hu hv hz
  have d1 : decide (9223372036854775808 < x) = false := decide_eq_false (by omega)
  have e2 := rlfeq u ou
  have e3 := rlfeq v ov
  have e4 := rlfeq z oz
  go_enter Try.func8, Try.ntmps8
  go_wp2_with (refine load_blk 65 (.tmp 3) (w.heap.size) #[.bool l.has, .int .u64 l.D.f.X, .int .u64 (hi (l.D.f.Y)), .int .u64 (lo (l.D.f.Y)), .int .u64 l.D.f.M, .int .u64 l.D.t.X, .int .u64 (hi (l.D.t.Y)), .int .u64 (lo (l.D.t.Y)), .int .u64 l.D.t.M, .bool l.D.b, .int .u64 l.E.f.X, .int .u64 (hi (l.E.f.Y)), .int .u64 (lo (l.E.f.Y)), .int .u64 l.E.f.M, .int .u64 l.E.t.X, .int .u64 (hi (l.E.t.Y)), .int .u64 (lo (l.E.t.Y)), .int .u64 l.E.t.M, .bool l.E.b, .int .u64 l.p, .int .u64 l.e, .int .u64 l.t] 65 _ (by rfl) (by rfl) (by rfl) (by (repeat' (first | (with_reducible (first | assumption | exact Blk.alloc_new _ _ _ (by first | rfl | (simp; done) | omega) | apply Blk.drewN | apply Blk.drew | apply Blk.alloc_old | apply Blk.set_same | apply Blk.set_other)) | (show (_ : Nat) ≠ _; first | omega | (simp; done) | (simp; omega)) | ((simp only [List.setIfInBounds_toArray, List.set_cons_succ, List.set_cons_zero]); (with_reducible exact rfl)) | (with_reducible exact rfl) | (show (_ : Array Value) = _; exact rfl)))) Try.underlying65 rfl (by kernel_rfl) ?_)
  refine (ref20l l _ ol).mono ?_
  rintro e w1 ⟨rfl, hb1⟩
  have A1 : Blk w1 (w.heap.size) #[.bool l.has, .int .u64 l.D.f.X, .int .u64 (hi (l.D.f.Y)), .int .u64 (lo (l.D.f.Y)), .int .u64 l.D.f.M, .int .u64 l.D.t.X, .int .u64 (hi (l.D.t.Y)), .int .u64 (lo (l.D.t.Y)), .int .u64 l.D.t.M, .bool l.D.b, .int .u64 l.E.f.X, .int .u64 (hi (l.E.f.Y)), .int .u64 (lo (l.E.f.Y)), .int .u64 l.E.f.M, .int .u64 l.E.t.X, .int .u64 (hi (l.E.t.Y)), .int .u64 (lo (l.E.t.Y)), .int .u64 l.E.t.M, .bool l.E.b, .int .u64 l.p, .int .u64 l.e, .int .u64 l.t] 65 := Blk.below (by (repeat' (first | (with_reducible (first | assumption | exact Blk.alloc_new _ _ _ (by first | rfl | (simp; done) | omega) | apply Blk.drewN | apply Blk.drew | apply Blk.alloc_old | apply Blk.set_same | apply Blk.set_other)) | (show (_ : Nat) ≠ _; first | omega | (simp; done) | (simp; omega)) | ((simp only [List.setIfInBounds_toArray, List.set_cons_succ, List.set_cons_zero]); (with_reducible exact rfl)) | (with_reducible exact rfl) | (show (_ : Array Value) = _; exact rfl)))) hb1 (by first | (simp; done) | omega | (simp; omega))
  have C1 : Blk w1 (w.heap.size + 1) #[.int .u64 m, .int .u64 d, .int .u64 n] 24 := Blk.below (by (repeat' (first | (with_reducible (first | assumption | exact Blk.alloc_new _ _ _ (by first | rfl | (simp; done) | omega) | apply Blk.drewN | apply Blk.drew | apply Blk.alloc_old | apply Blk.set_same | apply Blk.set_other)) | (show (_ : Nat) ≠ _; first | omega | (simp; done) | (simp; omega)) | ((simp only [List.setIfInBounds_toArray, List.set_cons_succ, List.set_cons_zero]); (with_reducible exact rfl)) | (with_reducible exact rfl) | (show (_ : Array Value) = _; exact rfl)))) hb1 (by first | (simp; done) | omega | (simp; omega))
  have Q1 : Blk w1 (w.heap.size + 1 + 1) #[.int .i64 k, .int .u64 x, .int .i64 s, .int .i64 h] 67 := Blk.below (by (repeat' (first | (with_reducible (first | assumption | exact Blk.alloc_new _ _ _ (by first | rfl | (simp; done) | omega) | apply Blk.drewN | apply Blk.drew | apply Blk.alloc_old | apply Blk.set_same | apply Blk.set_other)) | (show (_ : Nat) ≠ _; first | omega | (simp; done) | (simp; omega)) | ((simp only [List.setIfInBounds_toArray, List.set_cons_succ, List.set_cons_zero]); (with_reducible exact rfl)) | (with_reducible exact rfl) | (show (_ : Array Value) = _; exact rfl)))) hb1 (by first | (simp; done) | omega | (simp; omega))
  have g1 : Below w.heap.size w w1 := by refine Below.trans ?_ (hb1.mono ?_) <;> (repeat' (first | (with_reducible (first | exact Below.refl _ _ | assumption | refine below_drewN ?_ _ | refine Below.drew ?_ | refine Below.alloc ?_ ?_ _ | refine Below.setCell ?_ ?_ _)) | go_size))
  have hz1 := hb1.size
  (try simp at hz1)
  clear hb1
  replace cA := A1.cell
  replace fA := A1.frozen
  replace zA := A1.size
  replace cC := C1.cell
  replace fC := C1.frozen
  replace zC := C1.size
  replace cQ := Q1.cell
  replace fQ := Q1.frozen
  replace zQ := Q1.size
  go_wp2_with (refine store_blk 69 (.tmp 7) (.tmp 13) (w1.heap.size) #[.bool false, .int .u64 0, .int .u64 0, .int .u64 0, .int .u64 0, .int .u64 0, .int .u64 0, .int .u64 0, .int .u64 0, .int .u64 0, .int .u64 0, .int .u64 0, .int .u64 0, .bool false, .int .u64 0, .int .u64 0, .int .u64 0, .int .u64 0, .int .u64 0, .int .u64 0, .int .u64 0, .int .u64 0, .int .u64 0, .int .u64 0, .int .u64 0, .int .u64 0, .bool false, .int .u64 0, .int .u64 0, .int .u64 0] #[.bool l.has, .int .u64 l.D.f.X, .int .u64 (dg0 (l.D.f.Y)), .int .u64 (dg1 (l.D.f.Y)), .int .u64 (dg2 (l.D.f.Y)), .int .u64 (dg3 (l.D.f.Y)), .int .u64 l.D.f.M, .int .u64 l.D.t.X, .int .u64 (dg0 (l.D.t.Y)), .int .u64 (dg1 (l.D.t.Y)), .int .u64 (dg2 (l.D.t.Y)), .int .u64 (dg3 (l.D.t.Y)), .int .u64 l.D.t.M, .bool l.D.b, .int .u64 l.E.f.X, .int .u64 (dg0 (l.E.f.Y)), .int .u64 (dg1 (l.E.f.Y)), .int .u64 (dg2 (l.E.f.Y)), .int .u64 (dg3 (l.E.f.Y)), .int .u64 l.E.f.M, .int .u64 l.E.t.X, .int .u64 (dg0 (l.E.t.Y)), .int .u64 (dg1 (l.E.t.Y)), .int .u64 (dg2 (l.E.t.Y)), .int .u64 (dg3 (l.E.t.Y)), .int .u64 l.E.t.M, .bool l.E.b, .int .u64 l.p, .int .u64 l.e, .int .u64 l.t] 69 (by rfl) (by rfl) (by rfl) (by rfl) (by (repeat' (first | (with_reducible (first | assumption | exact Blk.alloc_new _ _ _ (by first | rfl | (simp; done) | omega) | apply Blk.drewN | apply Blk.drew | apply Blk.alloc_old | apply Blk.set_same | apply Blk.set_other)) | (show (_ : Nat) ≠ _; first | omega | (simp; done) | (simp; omega)) | ((simp only [List.setIfInBounds_toArray, List.set_cons_succ, List.set_cons_zero]); (with_reducible exact rfl)) | (with_reducible exact rfl) | (show (_ : Array Value) = _; exact rfl)))) rfl (by kernel_rfl) (by simp [Value.oneCell']) ?_; intro w2 W2 kB2 kO2 hs2; have g2 : Below w.heap.size w w2 := kB2 _ _ (by first | (simp; done) | omega | (simp; omega)) (by (repeat' (first | (with_reducible (first | exact Below.refl _ _ | assumption | refine below_drewN ?_ _ | refine Below.drew ?_ | refine Below.alloc ?_ ?_ _ | refine Below.setCell ?_ ?_ _)) | go_size))); have A2 := kO2 (w.heap.size) #[.bool l.has, .int .u64 l.D.f.X, .int .u64 (hi (l.D.f.Y)), .int .u64 (lo (l.D.f.Y)), .int .u64 l.D.f.M, .int .u64 l.D.t.X, .int .u64 (hi (l.D.t.Y)), .int .u64 (lo (l.D.t.Y)), .int .u64 l.D.t.M, .bool l.D.b, .int .u64 l.E.f.X, .int .u64 (hi (l.E.f.Y)), .int .u64 (lo (l.E.f.Y)), .int .u64 l.E.f.M, .int .u64 l.E.t.X, .int .u64 (hi (l.E.t.Y)), .int .u64 (lo (l.E.t.Y)), .int .u64 l.E.t.M, .bool l.E.b, .int .u64 l.p, .int .u64 l.e, .int .u64 l.t] 65 (by first | (simp; done) | omega | (simp; omega)) (by (repeat' (first | (with_reducible (first | assumption | exact Blk.alloc_new _ _ _ (by first | rfl | (simp; done) | omega) | apply Blk.drewN | apply Blk.drew | apply Blk.alloc_old | apply Blk.set_same | apply Blk.set_other)) | (show (_ : Nat) ≠ _; first | omega | (simp; done) | (simp; omega)) | ((simp only [List.setIfInBounds_toArray, List.set_cons_succ, List.set_cons_zero]); (with_reducible exact rfl)) | (with_reducible exact rfl) | (show (_ : Array Value) = _; exact rfl)))); replace cA := A2.cell; replace fA := A2.frozen; replace zA := A2.size; have C2 := kO2 (w.heap.size + 1) #[.int .u64 m, .int .u64 d, .int .u64 n] 24 (by first | (simp; done) | omega | (simp; omega)) (by (repeat' (first | (with_reducible (first | assumption | exact Blk.alloc_new _ _ _ (by first | rfl | (simp; done) | omega) | apply Blk.drewN | apply Blk.drew | apply Blk.alloc_old | apply Blk.set_same | apply Blk.set_other)) | (show (_ : Nat) ≠ _; first | omega | (simp; done) | (simp; omega)) | ((simp only [List.setIfInBounds_toArray, List.set_cons_succ, List.set_cons_zero]); (with_reducible exact rfl)) | (with_reducible exact rfl) | (show (_ : Array Value) = _; exact rfl)))); replace cC := C2.cell; replace fC := C2.frozen; replace zC := C2.size; have Q2 := kO2 (w.heap.size + 1 + 1) #[.int .i64 k, .int .u64 x, .int .i64 s, .int .i64 h] 67 (by first | (simp; done) | omega | (simp; omega)) (by (repeat' (first | (with_reducible (first | assumption | exact Blk.alloc_new _ _ _ (by first | rfl | (simp; done) | omega) | apply Blk.drewN | apply Blk.drew | apply Blk.alloc_old | apply Blk.set_same | apply Blk.set_other)) | (show (_ : Nat) ≠ _; first | omega | (simp; done) | (simp; omega)) | ((simp only [List.setIfInBounds_toArray, List.set_cons_succ, List.set_cons_zero]); (with_reducible exact rfl)) | (with_reducible exact rfl) | (show (_ : Array Value) = _; exact rfl)))); replace cQ := Q2.cell; replace fQ := Q2.frozen; replace zQ := Q2.size; have cW := W2.cell; have fW := W2.frozen; have zW := W2.size)
  refine wp_forget (fun v => Below w.heap.size w v ∧ Blk v (w.heap.size) #[.bool l.has, .int .u64 l.D.f.X, .int .u64 (hi (l.D.f.Y)), .int .u64 (lo (l.D.f.Y)), .int .u64 l.D.f.M, .int .u64 l.D.t.X, .int .u64 (hi (l.D.t.Y)), .int .u64 (lo (l.D.t.Y)), .int .u64 l.D.t.M, .bool l.D.b, .int .u64 l.E.f.X, .int .u64 (hi (l.E.f.Y)), .int .u64 (lo (l.E.f.Y)), .int .u64 l.E.f.M, .int .u64 l.E.t.X, .int .u64 (hi (l.E.t.Y)), .int .u64 (lo (l.E.t.Y)), .int .u64 l.E.t.M, .bool l.E.b, .int .u64 l.p, .int .u64 l.e, .int .u64 l.t] 65 ∧ Blk v (w.heap.size + 1) #[.int .u64 m, .int .u64 d, .int .u64 n] 24 ∧ Blk v (w.heap.size + 1 + 1) #[.int .i64 k, .int .u64 x, .int .i64 s, .int .i64 h] 67 ∧ Blk v (w1.heap.size) #[.bool l.has, .int .u64 l.D.f.X, .int .u64 (dg0 (l.D.f.Y)), .int .u64 (dg1 (l.D.f.Y)), .int .u64 (dg2 (l.D.f.Y)), .int .u64 (dg3 (l.D.f.Y)), .int .u64 l.D.f.M, .int .u64 l.D.t.X, .int .u64 (dg0 (l.D.t.Y)), .int .u64 (dg1 (l.D.t.Y)), .int .u64 (dg2 (l.D.t.Y)), .int .u64 (dg3 (l.D.t.Y)), .int .u64 l.D.t.M, .bool l.D.b, .int .u64 l.E.f.X, .int .u64 (dg0 (l.E.f.Y)), .int .u64 (dg1 (l.E.f.Y)), .int .u64 (dg2 (l.E.f.Y)), .int .u64 (dg3 (l.E.f.Y)), .int .u64 l.E.f.M, .int .u64 l.E.t.X, .int .u64 (dg0 (l.E.t.Y)), .int .u64 (dg1 (l.E.t.Y)), .int .u64 (dg2 (l.E.t.Y)), .int .u64 (dg3 (l.E.t.Y)), .int .u64 l.E.t.M, .bool l.E.b, .int .u64 l.p, .int .u64 l.e, .int .u64 l.t] 69) ⟨by (repeat' (first | (with_reducible (first | exact Below.refl _ _ | assumption | refine below_drewN ?_ _ | refine Below.drew ?_ | refine Below.alloc ?_ ?_ _ | refine Below.setCell ?_ ?_ _)) | go_size)), by (repeat' (first | (with_reducible (first | assumption | exact Blk.alloc_new _ _ _ (by first | rfl | (simp; done) | omega) | apply Blk.drewN | apply Blk.drew | apply Blk.alloc_old | apply Blk.set_same | apply Blk.set_other)) | (show (_ : Nat) ≠ _; first | omega | (simp; done) | (simp; omega)) | ((simp only [List.setIfInBounds_toArray, List.set_cons_succ, List.set_cons_zero]); (with_reducible exact rfl)) | (with_reducible exact rfl) | (show (_ : Array Value) = _; exact rfl))), by (repeat' (first | (with_reducible (first | assumption | exact Blk.alloc_new _ _ _ (by first | rfl | (simp; done) | omega) | apply Blk.drewN | apply Blk.drew | apply Blk.alloc_old | apply Blk.set_same | apply Blk.set_other)) | (show (_ : Nat) ≠ _; first | omega | (simp; done) | (simp; omega)) | ((simp only [List.setIfInBounds_toArray, List.set_cons_succ, List.set_cons_zero]); (with_reducible exact rfl)) | (with_reducible exact rfl) | (show (_ : Array Value) = _; exact rfl))), by (repeat' (first | (with_reducible (first | assumption | exact Blk.alloc_new _ _ _ (by first | rfl | (simp; done) | omega) | apply Blk.drewN | apply Blk.drew | apply Blk.alloc_old | apply Blk.set_same | apply Blk.set_other)) | (show (_ : Nat) ≠ _; first | omega | (simp; done) | (simp; omega)) | ((simp only [List.setIfInBounds_toArray, List.set_cons_succ, List.set_cons_zero]); (with_reducible exact rfl)) | (with_reducible exact rfl) | (show (_ : Array Value) = _; exact rfl))), by (repeat' (first | (with_reducible (first | assumption | exact Blk.alloc_new _ _ _ (by first | rfl | (simp; done) | omega) | apply Blk.drewN | apply Blk.drew | apply Blk.alloc_old | apply Blk.set_same | apply Blk.set_other)) | (show (_ : Nat) ≠ _; first | omega | (simp; done) | (simp; omega)) | ((simp only [List.setIfInBounds_toArray, List.set_cons_succ, List.set_cons_zero]); (with_reducible exact rfl)) | (with_reducible exact rfl) | (show (_ : Array Value) = _; exact rfl)))⟩ ?_
  rintro v3 ⟨gv3, Av3, Cv3, Qv3, Wv3⟩
  have qA3 := blk_calm Av3
  have qC3 := blk_calm Cv3
  have qQ3 := blk_calm Qv3
  have qW3 := blk_calm Wv3
  refine wp_region_quiet_below (by kernel_rfl) (by kernel_rfl) ?_
  repeat (first | (refine quiet_load 65 (.tmp 3) (w.heap.size) #[.bool l.has, .int .u64 l.D.f.X, .int .u64 (hi (l.D.f.Y)), .int .u64 (lo (l.D.f.Y)), .int .u64 l.D.f.M, .int .u64 l.D.t.X, .int .u64 (hi (l.D.t.Y)), .int .u64 (lo (l.D.t.Y)), .int .u64 l.D.t.M, .bool l.D.b, .int .u64 l.E.f.X, .int .u64 (hi (l.E.f.Y)), .int .u64 (lo (l.E.f.Y)), .int .u64 l.E.f.M, .int .u64 l.E.t.X, .int .u64 (hi (l.E.t.Y)), .int .u64 (lo (l.E.t.Y)), .int .u64 l.E.t.M, .bool l.E.b, .int .u64 l.p, .int .u64 l.e, .int .u64 l.t] 65 _ (by rfl) (by rfl) (by rfl) Av3 Try.underlying65 rfl (by kernel_rfl) ?_; (try simp only [Act.put, List.setIfInBounds_toArray, List.set_cons_succ, List.set_cons_zero])) | (refine quiet_load 69 (.tmp 7) (w1.heap.size) #[.bool l.has, .int .u64 l.D.f.X, .int .u64 (dg0 (l.D.f.Y)), .int .u64 (dg1 (l.D.f.Y)), .int .u64 (dg2 (l.D.f.Y)), .int .u64 (dg3 (l.D.f.Y)), .int .u64 l.D.f.M, .int .u64 l.D.t.X, .int .u64 (dg0 (l.D.t.Y)), .int .u64 (dg1 (l.D.t.Y)), .int .u64 (dg2 (l.D.t.Y)), .int .u64 (dg3 (l.D.t.Y)), .int .u64 l.D.t.M, .bool l.D.b, .int .u64 l.E.f.X, .int .u64 (dg0 (l.E.f.Y)), .int .u64 (dg1 (l.E.f.Y)), .int .u64 (dg2 (l.E.f.Y)), .int .u64 (dg3 (l.E.f.Y)), .int .u64 l.E.f.M, .int .u64 l.E.t.X, .int .u64 (dg0 (l.E.t.Y)), .int .u64 (dg1 (l.E.t.Y)), .int .u64 (dg2 (l.E.t.Y)), .int .u64 (dg3 (l.E.t.Y)), .int .u64 l.E.t.M, .bool l.E.b, .int .u64 l.p, .int .u64 l.e, .int .u64 l.t] 69 _ (by rfl) (by rfl) (by rfl) Wv3 Try.underlying69 rfl (by kernel_rfl) ?_; (try simp only [Act.put, List.setIfInBounds_toArray, List.set_cons_succ, List.set_cons_zero])) | (go_big_quiet_step ((first
      | (go_at_call 32; (with_reducible exact Calls.regrown_of (wake_any l u m d n x h _ hm hd hn hx ol hh Hu.out)))
      | (go_at_call 33; (with_reducible exact Calls.regrown_of (rlwake_any l u m d n x h _ hm hd hn hx ol hh Hu.out)))
      | (go_at_call 31; (with_reducible exact Calls.regrown_of (ref20l u _ ou)))
      | (go_at_call 31; (with_reducible exact Calls.regrown_of (ref20l v _ ov)))
      | (go_at_call 31; (with_reducible exact Calls.regrown_of (ref20l z _ oz)))
      | (go_at_call 34; (with_reducible exact Calls.regrown_of (took_any l v s h _ ol hs hh Hv.out)))
      | (go_at_call 35; (with_reducible exact Calls.regrown_of (rltook_any l v s h _ ol hs hh Hv.out)))
      | (go_at_call 36; (with_reducible exact Calls.regrown_of (passed_any l z h _ ol hh Hz.out)))
      | (go_at_call 37; (with_reducible exact Calls.regrown_of (rhead_any l z h _ ol hh Hz.out)))
      | (go_at_call 30; (with_reducible exact Calls.regrown_of (hundred20_true _)))))))
  refine wpQuiet_nil ?_
  intro _ hw'
  obtain ⟨pq, hw''⟩ := hw'
  subst hw''
  have hb3 := below_regrown v3 pq.d pq.os
  generalize Sort.grow (redrawn v3 pq.d) pq.os = w3 at *
  have A3 : Blk w3 (w.heap.size) #[.bool l.has, .int .u64 l.D.f.X, .int .u64 (hi (l.D.f.Y)), .int .u64 (lo (l.D.f.Y)), .int .u64 l.D.f.M, .int .u64 l.D.t.X, .int .u64 (hi (l.D.t.Y)), .int .u64 (lo (l.D.t.Y)), .int .u64 l.D.t.M, .bool l.D.b, .int .u64 l.E.f.X, .int .u64 (hi (l.E.f.Y)), .int .u64 (lo (l.E.f.Y)), .int .u64 l.E.f.M, .int .u64 l.E.t.X, .int .u64 (hi (l.E.t.Y)), .int .u64 (lo (l.E.t.Y)), .int .u64 l.E.t.M, .bool l.E.b, .int .u64 l.p, .int .u64 l.e, .int .u64 l.t] 65 := Blk.below Av3 hb3 Av3.size
  have C3 : Blk w3 (w.heap.size + 1) #[.int .u64 m, .int .u64 d, .int .u64 n] 24 := Blk.below Cv3 hb3 Cv3.size
  have Q3 : Blk w3 (w.heap.size + 1 + 1) #[.int .i64 k, .int .u64 x, .int .i64 s, .int .i64 h] 67 := Blk.below Qv3 hb3 Qv3.size
  have W3 : Blk w3 (w1.heap.size) #[.bool l.has, .int .u64 l.D.f.X, .int .u64 (dg0 (l.D.f.Y)), .int .u64 (dg1 (l.D.f.Y)), .int .u64 (dg2 (l.D.f.Y)), .int .u64 (dg3 (l.D.f.Y)), .int .u64 l.D.f.M, .int .u64 l.D.t.X, .int .u64 (dg0 (l.D.t.Y)), .int .u64 (dg1 (l.D.t.Y)), .int .u64 (dg2 (l.D.t.Y)), .int .u64 (dg3 (l.D.t.Y)), .int .u64 l.D.t.M, .bool l.D.b, .int .u64 l.E.f.X, .int .u64 (dg0 (l.E.f.Y)), .int .u64 (dg1 (l.E.f.Y)), .int .u64 (dg2 (l.E.f.Y)), .int .u64 (dg3 (l.E.f.Y)), .int .u64 l.E.f.M, .int .u64 l.E.t.X, .int .u64 (dg0 (l.E.t.Y)), .int .u64 (dg1 (l.E.t.Y)), .int .u64 (dg2 (l.E.t.Y)), .int .u64 (dg3 (l.E.t.Y)), .int .u64 l.E.t.M, .bool l.E.b, .int .u64 l.p, .int .u64 l.e, .int .u64 l.t] 69 := Blk.below Wv3 hb3 Wv3.size
  have g3 : Below w.heap.size w w3 := gv3.trans (hb3.mono gv3.size)
  have hz3 : w.heap.size ≤ w3.heap.size := g3.size
  clear hb3 gv3 Av3 qA3 Cv3 qC3 Qv3 qQ3 Wv3 qW3
  replace cA := A3.cell
  replace fA := A3.frozen
  replace zA := A3.size
  replace cC := C3.cell
  replace fC := C3.frozen
  replace zC := C3.size
  replace cQ := Q3.cell
  replace fQ := Q3.frozen
  replace zQ := Q3.size
  replace cW := W3.cell
  replace fW := W3.frozen
  replace zW := W3.size
  go_wp2
  go_ret
  exact ⟨rfl, by (repeat' (first | (with_reducible (first | exact Below.refl _ _ | assumption | refine below_drewN ?_ _ | refine Below.drew ?_ | refine Below.alloc ?_ ?_ _ | refine Below.setCell ?_ ?_ _)) | go_size))⟩
set_option maxHeartbeats 4000000 in
theorem RT_out (l : LF) (m d n k x s h : Int) (w : World) (hl : 9223372036854775808 < x) :
    Calls Try.prog 8 #[leafv l, .agg #[.int .u64 m, .int .u64 d, .int .u64 n], .agg #[.int .i64 k, .int .u64 x, .int .i64 s, .int .i64 h]] w fun e w' => e = .returned (.bool true) ∧ Below w.heap.size w w' := by
  have d1 : decide (9223372036854775808 < x) = true := decide_eq_true hl
  go_enter Try.func8, Try.ntmps8
  go_wp2_with fail
  refine (hundred20_true _).mono ?_
  rintro e w1 ⟨rfl, hb1⟩
  have g1 : Below w.heap.size w w1 := by refine Below.trans ?_ (hb1.mono ?_) <;> (repeat' (first | (with_reducible (first | exact Below.refl _ _ | assumption | refine below_drewN ?_ _ | refine Below.drew ?_ | refine Below.alloc ?_ ?_ _ | refine Below.setCell ?_ ?_ _)) | go_size))
  have hz1 := hb1.size
  (try simp at hz1)
  clear hb1
  go_wp2
  go_ret
  exact ⟨rfl, by (repeat' (first | (with_reducible (first | exact Below.refl _ _ | assumption | refine below_drewN ?_ _ | refine Below.drew ?_ | refine Below.alloc ?_ ?_ _ | refine Below.setCell ?_ ?_ _)) | go_size))⟩
theorem LF.headed_ok {l : LF} {h : Int} (ol : l.ok) : (l.headed h).ok := by
  unfold LF.headed; split <;> exact ol
theorem LF.took_ok {l : LF} {s h : Int} (ol : l.ok) : (l.took s h).ok := by
  unfold LF.took; exact LF.headed_ok ⟨ol.1, ol.2.1, wrapU _⟩
theorem LF.woke_ok {l : LF} {m d n x : Int} (hm : 0 ≤ m ∧ m ≤ 18446744073709551615) (hd : 0 ≤ d) (hn : 0 ≤ n ∧ n ≤ 18446744073709551615) (hx : 0 ≤ x ∧ x ≤ 9223372036854775808) (ol : l.ok) : (l.woke m d n x).ok := by
  have os := RN.start_ok (m := m) (d := d) (n := n) (x := x) (y := l.p * 65536) hm hd hn hx (un_in ol.2.2)
  have or' := RN.ready_ok (m := m) (d := d) (n := n) (x := x) (y := l.p * 65536) hm hn (by omega) (un_in ol.2.2)
  refine ⟨?_, ?_, ol.2.2⟩
  · show RN.ok (if l.has then RN.meet l.D (RN.start m d n x (l.p * 65536)) else RN.start m d n x (l.p * 65536))
    split
    · exact RN.meet_ok ol.1 os
    · exact os
  · show RN.ok (if l.has then RN.meet l.E (RN.ready m d n x (l.p * 65536)) else RN.ready m d n x (l.p * 65536))
    split
    · exact RN.meet_ok ol.2.1 or'
    · exact or'
theorem RealTells_walk (a0 : Bool) (a1 : Int) (ha1 : 0 ≤ a1 ∧ a1 ≤ 18446744073709551615) (a2 : Int) (ha2 : 0 ≤ a2 ∧ a2 ≤ 18446744073709551615) (a3 : Int) (ha3 : 0 ≤ a3 ∧ a3 ≤ 18446744073709551615) (a4 : Int) (ha4 : 0 ≤ a4 ∧ a4 ≤ 18446744073709551615) (a5 : Int) (ha5 : 0 ≤ a5 ∧ a5 ≤ 18446744073709551615) (a6 : Int) (ha6 : 0 ≤ a6 ∧ a6 ≤ 18446744073709551615) (a7 : Int) (ha7 : 0 ≤ a7 ∧ a7 ≤ 18446744073709551615) (a8 : Int) (ha8 : 0 ≤ a8 ∧ a8 ≤ 18446744073709551615) (a9 : Bool) (a10 : Int) (ha10 : 0 ≤ a10 ∧ a10 ≤ 18446744073709551615) (a11 : Int) (ha11 : 0 ≤ a11 ∧ a11 ≤ 18446744073709551615) (a12 : Int) (ha12 : 0 ≤ a12 ∧ a12 ≤ 18446744073709551615) (a13 : Int) (ha13 : 0 ≤ a13 ∧ a13 ≤ 18446744073709551615) (a14 : Int) (ha14 : 0 ≤ a14 ∧ a14 ≤ 18446744073709551615) (a15 : Int) (ha15 : 0 ≤ a15 ∧ a15 ≤ 18446744073709551615) (a16 : Int) (ha16 : 0 ≤ a16 ∧ a16 ≤ 18446744073709551615) (a17 : Int) (ha17 : 0 ≤ a17 ∧ a17 ≤ 18446744073709551615) (a18 : Bool) (a19 : Int) (ha19 : 0 ≤ a19 ∧ a19 ≤ 18446744073709551615) (a20 : Int) (ha20 : 0 ≤ a20 ∧ a20 ≤ 18446744073709551615) (a21 : Int) (ha21 : 0 ≤ a21 ∧ a21 ≤ 18446744073709551615) (m : Int) (hm : 0 ≤ m ∧ m ≤ 18446744073709551615) (d : Int) (hd : 0 ≤ d ∧ d ≤ 18446744073709551615) (n : Int) (hn : 0 ≤ n ∧ n ≤ 18446744073709551615) (k : Int) (hk : -9223372036854775808 ≤ k ∧ k ≤ 9223372036854775807) (x : Int) (hx : 0 ≤ x ∧ x ≤ 18446744073709551615) (s : Int) (hs : -9223372036854775808 ≤ s ∧ s ≤ 9223372036854775807) (h : Int) (hh : -9223372036854775808 ≤ h ∧ h ≤ 9223372036854775807) (w : World) :
    Calls Try.prog 8 #[.agg #[.bool a0, .int .u64 a1, .int .u64 a2, .int .u64 a3, .int .u64 a4, .int .u64 a5, .int .u64 a6, .int .u64 a7, .int .u64 a8, .bool a9, .int .u64 a10, .int .u64 a11, .int .u64 a12, .int .u64 a13, .int .u64 a14, .int .u64 a15, .int .u64 a16, .int .u64 a17, .bool a18, .int .u64 a19, .int .u64 a20, .int .u64 a21], .agg #[.int .u64 m, .int .u64 d, .int .u64 n], .agg #[.int .i64 k, .int .u64 x, .int .i64 s, .int .i64 h]] w fun e w' => e = .returned (.bool true) ∧ Below w.heap.size w w' := by
  obtain ⟨Y1, hY1, rfl, rfl⟩ := wv_of ha2 ha3
  obtain ⟨Y2, hY2, rfl, rfl⟩ := wv_of ha6 ha7
  obtain ⟨Y3, hY3, rfl, rfl⟩ := wv_of ha11 ha12
  obtain ⟨Y4, hY4, rfl, rfl⟩ := wv_of ha15 ha16
  have oc : LF.ok ⟨a0, ⟨⟨a1, Y1, a4⟩, ⟨a5, Y2, a8⟩, a9⟩, ⟨⟨a10, Y3, a13⟩, ⟨a14, Y4, a17⟩, a18⟩, a19, a20, a21⟩ := ⟨⟨⟨ha1, hY1, ha4⟩, ha5, hY2, ha8⟩, ⟨⟨ha10, hY3, ha13⟩, ha14, hY4, ha17⟩, ha19⟩
  by_cases hb : 9223372036854775808 < x
  · exact RT_out ⟨a0, ⟨⟨a1, Y1, a4⟩, ⟨a5, Y2, a8⟩, a9⟩, ⟨⟨a10, Y3, a13⟩, ⟨a14, Y4, a17⟩, a18⟩, a19, a20, a21⟩ m d n k x s h w hb
  · have hx' : 0 ≤ x ∧ x ≤ 9223372036854775808 := ⟨hx.1, by omega⟩
    exact RT_main ⟨a0, ⟨⟨a1, Y1, a4⟩, ⟨a5, Y2, a8⟩, a9⟩, ⟨⟨a10, Y3, a13⟩, ⟨a14, Y4, a17⟩, a18⟩, a19, a20, a21⟩ _ _ _ m d n k x s h w hm hd hn hx' hs hh oc (LF.headed_ok (LF.woke_ok hm hd.1 hn hx' oc)) (LF.took_ok oc) (LF.headed_ok oc) rfl rfl rfl
namespace realTellsDone
theorem own : ownKnob Try.prog.godebug = none := by kernel_rfl
theorem laidOut : laidOutB Try.prog = true := by kernel_rfl
set_option maxRecDepth 100000 in
theorem lifted (os : Os) (started : os.Started) (H : Type) (enc : TypeId × Value → H) :
    ReturnsInHanded {} Try.checked os 8 .any (Rows.realTellsSpec.pre6 enc Try.prog Try.f8 Rows.realTellsRow.domain false) (Rows.realTellsSpec.post enc Try.prog Try.f8 false true false false) := by
  refine returnsInHanded_of_change (C := Try.checked) own started (by kernel_rfl) Try.func8
    (ChangeSpec.witness6 (enc := enc) (C := Try.checked) false ⟨#[], #[.agg #[.bool false, .int .u64 0, .int .u64 0, .int .u64 0, .int .u64 0, .int .u64 0, .int .u64 0, .int .u64 0, .int .u64 0, .bool false, .int .u64 0, .int .u64 0, .int .u64 0, .int .u64 0, .int .u64 0, .int .u64 0, .int .u64 0, .int .u64 0, .bool false, .int .u64 0, .int .u64 0, .int .u64 0], .agg #[.int .u64 0, .int .u64 0, .int .u64 0], .agg #[.int .i64 0, .int .u64 0, .int .i64 0, .int .i64 0]], []⟩ 8 (by kernel_rfl) (by kernel_rfl) (by kernel_rfl) (by kernel_rfl)) ?_
  intro W base args ds gs before hval0 hW hcnd _
  have hval : ∀ (j : Nat) t v, Try.f8.params[j]? = some t → args[j]? = some v → Value.okWide Try.prog W .any base t v := hval0
  have hW' := hW
  obtain ⟨p, q, hA0, hV, rfl, hfz, hnd⟩ := hW
  have hA : DataW.TrodAll enc Try.prog W 0 (fun _ => true) true Try.f8.params.toList args.toList ds p := hA0
  rw [Try.params8] at hA hval
  obtain ⟨v0, vs0, d0, ds0, p0, q0, hargs, rfl, rfl, h0, r0⟩ := trodAll_cons hA
  obtain ⟨v1, vs1, d1, ds1, p1, q1, rfl, rfl, rfl, h1, r1⟩ := trodAll_cons r0
  obtain ⟨v2, vs2, d2, ds2, p2, q2, rfl, rfl, rfl, h2, r2⟩ := trodAll_cons r1
  obtain ⟨rfl, rfl, rfl⟩ := trodAll_nil r2
  obtain rfl : args = #[v0, v1, v2] := by cases args; simp_all
  obtain ⟨rfl, rfl⟩ := trodVars_none hV
  have k0 := h0
  have lt0 : ∀ x ∈ p0, x.block < W.heap.size := by obtain ⟨m, hm⟩ := k0; exact DataW.trod_lt m _ _ _ hm
  obtain ⟨a0_0, a0_1, a0_2, a0_3, a0_4, a0_5, a0_6, a0_7, a0_8, a0_9, a0_10, a0_11, a0_12, a0_13, a0_14, a0_15, a0_16, a0_17, a0_18, a0_19, a0_20, a0_21, rfl, b0_1, b0_2, b0_3, b0_4, b0_5, b0_6, b0_7, b0_8, b0_10, b0_11, b0_12, b0_13, b0_14, b0_15, b0_16, b0_17, b0_19, b0_20, b0_21⟩ := open_leaf (hval 0 65 v0 rfl rfl) h0
  have k1 := h1
  have lt1 : ∀ x ∈ p1, x.block < W.heap.size := by obtain ⟨m, hm⟩ := k1; exact DataW.trod_lt m _ _ _ hm
  obtain ⟨x1_0, x1_1, x1_2, y1_0, y1_1, y1_2, m1, rfl, hd1, hp1, q1_0, q1_1, q1_2⟩ := Joins.open_agg3 Try.underlying24 (by kernel_rfl) (show Try.prog.cellsOf 24 = 3 by kernel_rfl) (hval 1 24 v1 rfl rfl) h1
  obtain ⟨a1_0, e1_0, _, wf1_0⟩ := DataW.trod_int Try.underlying22 q1_0
  simp at e1_0
  subst e1_0
  have b1_0 := bounds_u64 wf1_0
  obtain ⟨a1_1, e1_1, _, wf1_1⟩ := DataW.trod_int Try.underlying22 q1_1
  simp at e1_1
  subst e1_1
  have b1_1 := bounds_u64 wf1_1
  obtain ⟨a1_2, e1_2, _, wf1_2⟩ := DataW.trod_int Try.underlying22 q1_2
  simp at e1_2
  subst e1_2
  have b1_2 := bounds_u64 wf1_2
  have k2 := h2
  have lt2 : ∀ x ∈ p2, x.block < W.heap.size := by obtain ⟨m, hm⟩ := k2; exact DataW.trod_lt m _ _ _ hm
  obtain ⟨a2_0, a2_1, a2_2, a2_3, rfl, b2_0, b2_1, b2_2, b2_3⟩ := open_call20 (hval 2 67 v2 rfl rfl) h2
  clear hA0 hval0
  refine (RealTells_walk a0_0 a0_1 b0_1 a0_2 b0_2 a0_3 b0_3 a0_4 b0_4 a0_5 b0_5 a0_6 b0_6 a0_7 b0_7 a0_8 b0_8 a0_9 a0_10 b0_10 a0_11 b0_11 a0_12 b0_12 a0_13 b0_13 a0_14 b0_14 a0_15 b0_15 a0_16 b0_16 a0_17 b0_17 a0_18 a0_19 b0_19 a0_20 b0_20 a0_21 b0_21 a1_0 b1_0 a1_1 b1_1 a1_2 b1_2 a2_0 b2_0 a2_1 b2_1 a2_2 b2_2 a2_3 b2_3 W).mono fun e W' ⟨he, bel⟩ => ?_
  subst he
  exact ⟨_, rfl, _, _, _, [], _, [], hW', trodAll_mk1 (shut_bool Try.underlying4 _), (trodAll_cons_mk (Below.trod laidOut (by kernel_rfl) (of_decide_eq_true (by kernel_rfl)) k0 bel lt0) (trodAll_cons_mk (Below.trod laidOut (by kernel_rfl) (of_decide_eq_true (by kernel_rfl)) k1 bel lt1) (trodAll_cons_mk (Below.trod laidOut (by kernel_rfl) (of_decide_eq_true (by kernel_rfl)) k2 bel lt2) trodAll_mk0))), rfl, bel.frame _, fun h => by cases h⟩
theorem over : Rows.realTellsRow.holds Try.pinned (OpenSpec.ofChange Rows.realTellsSpec) :=
  OpenClaim.holds_of_wide 8 Try.f8 rfl rfl rfl rfl rfl rfl rfl ⟨rfl, rfl, rfl, rfl, rfl⟩ rfl rfl rfl rfl rfl (by kernel_rfl) Try.func8 (by kernel_rfl)
    (of_decide_eq_true (by kernel_rfl)) (by unfold Func.isWrapper; first | (rw [if_pos (by decide +kernel)]; kernel_rfl) | (rw [if_neg (by decide +kernel)]; exact ⟨rfl, rfl⟩))
    (fun os started H enc _ => lifted os started H enc)
end realTellsDone
theorem RealTells_holds : Rows.RealTellsSaid := realTellsDone.over

end Go.Proofs.Ytaaoadbcgnedkaa
