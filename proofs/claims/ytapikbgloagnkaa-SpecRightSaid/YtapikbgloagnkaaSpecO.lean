/-
  A class that came in, opened; spec.Right, Real, Shares, Capped; the closed example. Conditions: fields in range.
-/
import Derived.Test.YtapikbgloagnkaaSpecS
import Derived.Test.YtapikbgloagnkaaSpecW
import Derived.Test.YtapikbgloagnkaaFrame
import Derived.Deep.RegionHeld3
namespace Go.Proofs.Ytapikbgloagnkaa
open Go.ChangeShapes Go.WideShapes Go.ChangeAt Go.RowKit
set_option linter.unusedVariables false
theorem list14 {α : Type} {l : List α} (h : l.length = 14) : ∃ a b c d e f g i j k m n o p, l = [a, b, c, d, e, f, g, i, j, k, m, n, o, p] := by
  match l, h with
  | [a, b, c, d, e, f, g, i, j, k, m, n, o, p], _ => exact ⟨a, b, c, d, e, f, g, i, j, k, m, n, o, p, rfl⟩
theorem list8 {α : Type} {l : List α} (h : l.length = 8) : ∃ a b c d e f g i, l = [a, b, c, d, e, f, g, i] := by
  match l, h with
  | [a, b, c, d, e, f, g, i], _ => exact ⟨a, b, c, d, e, f, g, i, rfl⟩
theorem list3 {α : Type} {l : List α} (h : l.length = 3) : ∃ a b c, l = [a, b, c] := by
  match l, h with
  | [a, b, c], _ => exact ⟨a, b, c, rfl⟩
section
variable {H : Type} {w : World} {base : Nat} {spare : Nat → Bool} {held : Bool} {enc : TypeId × Value → H}
theorem open_cls {r : Reach} {b0 : Nat} {v : Value} {d : DataW H} {p : List MemPlace} (hv : Value.okWide Try.prog w r b0 32 v) (h : DataW.Trod enc Try.prog w base spare held 32 v d p) :
    ∃ (id par : Int) (lf : Bool) (r0 r1 r2 l0 l1 l2 u0 u1 u2 pk by_ : Int), v = cls id par lf r0 r1 r2 l0 l1 l2 u0 u1 u2 pk by_ ∧ (-9223372036854775808 ≤ id ∧ id ≤ 9223372036854775807) ∧ (-9223372036854775808 ≤ par ∧ par ≤ 9223372036854775807) ∧
      (0 ≤ r0 ∧ r0 ≤ 18446744073709551615) ∧ (0 ≤ r1 ∧ r1 ≤ 18446744073709551615) ∧ (0 ≤ r2 ∧ r2 ≤ 18446744073709551615) ∧ (0 ≤ l0 ∧ l0 ≤ 18446744073709551615) ∧ (0 ≤ l1 ∧ l1 ≤ 18446744073709551615) ∧ (0 ≤ l2 ∧ l2 ≤ 18446744073709551615) ∧ (0 ≤ u0 ∧ u0 ≤ 18446744073709551615) ∧ (0 ≤ u1 ∧ u1 ≤ 18446744073709551615) ∧ (0 ≤ u2 ∧ u2 ≤ 18446744073709551615) ∧
      (-9223372036854775808 ≤ pk ∧ pk ≤ 9223372036854775807) ∧ (-9223372036854775808 ≤ by_ ∧ by_ ≤ 9223372036854775807) := by
  obtain ⟨cs, rfl, hsz⟩ := okWide_struct Try.underlying32 hv
  obtain ⟨l⟩ := cs
  obtain ⟨c0, c1, c2, c3, c4, c5, c6, c7, c8, c9, c10, c11, c12, c13, rfl⟩ := list14 (l := l) (hsz.trans (show Try.prog.cellsOf 32 = 14 by kernel_rfl))
  obtain ⟨fuel, hf⟩ := h
  obtain ⟨ys, m, _, _, _, hl, hx⟩ := DataW.trod_struct Try.underlying32 (show DataW.trod enc Try.prog w base spare held fuel 32 [c0, c1, c2, c3, c4, c5, c6, c7, c8, c9, c10, c11, c12, c13] = some (d, p) by simpa [Value.cells] using hf)
  obtain ⟨y0, y1, y2, y3, y4, y5, y6, y7, rfl⟩ := list8 hl
  have k1 : Try.prog.cellsOf 22 = 1 := by kernel_rfl
  have k2 : Try.prog.cellsOf 3 = 1 := by kernel_rfl
  have k3 : Try.prog.cellsOf 4 = 1 := by kernel_rfl
  have k4 : Try.prog.cellsOf 30 = 3 := by kernel_rfl
  have q0 := hx 0 _ rfl
  have q1 := hx 1 _ rfl
  have q2 := hx 2 _ rfl
  have q3 := hx 3 _ rfl
  have q4 := hx 4 _ rfl
  have q5 := hx 5 _ rfl
  have q6 := hx 6 _ rfl
  have q7 := hx 7 _ rfl
  simp [k2, k3, k4] at q0 q1 q2 q3 q4 q5 q6 q7
  obtain ⟨id, e0, _, w0⟩ := DataW.trod_int Try.underlying3 q0
  obtain ⟨par, e1, _, w1⟩ := DataW.trod_int Try.underlying3 q1
  obtain ⟨lf, e2, _⟩ := DataW.trod_bool Try.underlying4 q2
  obtain ⟨pk, e6, _, w6⟩ := DataW.trod_int Try.underlying3 q6
  obtain ⟨by_, e7, _, w7⟩ := DataW.trod_int Try.underlying3 q7
  obtain ⟨zr, mr, _, _, _, hlr, hxr⟩ := DataW.trod_struct Try.underlying30 q3
  obtain ⟨zr0, zr1, zr2, rfl⟩ := list3 hlr
  have qr0 := hxr 0 _ rfl
  have qr1 := hxr 1 _ rfl
  have qr2 := hxr 2 _ rfl
  simp [k1] at qr0 qr1 qr2
  obtain ⟨r0, er0, _, wr0⟩ := DataW.trod_int Try.underlying22 qr0
  obtain ⟨r1, er1, _, wr1⟩ := DataW.trod_int Try.underlying22 qr1
  obtain ⟨r2, er2, _, wr2⟩ := DataW.trod_int Try.underlying22 qr2
  obtain ⟨zl, ml, _, _, _, hll, hxl⟩ := DataW.trod_struct Try.underlying30 q4
  obtain ⟨zl0, zl1, zl2, rfl⟩ := list3 hll
  have ql0 := hxl 0 _ rfl
  have ql1 := hxl 1 _ rfl
  have ql2 := hxl 2 _ rfl
  simp [k1] at ql0 ql1 ql2
  obtain ⟨l0, el0, _, wl0⟩ := DataW.trod_int Try.underlying22 ql0
  obtain ⟨l1, el1, _, wl1⟩ := DataW.trod_int Try.underlying22 ql1
  obtain ⟨l2, el2, _, wl2⟩ := DataW.trod_int Try.underlying22 ql2
  obtain ⟨zu, mu, _, _, _, hlu, hxu⟩ := DataW.trod_struct Try.underlying30 q5
  obtain ⟨zu0, zu1, zu2, rfl⟩ := list3 hlu
  have qu0 := hxu 0 _ rfl
  have qu1 := hxu 1 _ rfl
  have qu2 := hxu 2 _ rfl
  simp [k1] at qu0 qu1 qu2
  obtain ⟨u0, eu0, _, wu0⟩ := DataW.trod_int Try.underlying22 qu0
  obtain ⟨u1, eu1, _, wu1⟩ := DataW.trod_int Try.underlying22 qu1
  obtain ⟨u2, eu2, _, wu2⟩ := DataW.trod_int Try.underlying22 qu2
  simp at e0 e1 e2 e6 e7 er0 er1 er2 el0 el1 el2 eu0 eu1 eu2
  subst e0 e1 e2 e6 e7 er0 er1 er2 el0 el1 el2 eu0 eu1 eu2
  exact ⟨id, par, lf, r0, r1, r2, l0, l1, l2, u0, u1, u2, pk, by_, rfl, bounds_i64 w0, bounds_i64 w1, bounds_u64 wr0, bounds_u64 wr1, bounds_u64 wr2, bounds_u64 wl0, bounds_u64 wl1, bounds_u64 wl2, bounds_u64 wu0, bounds_u64 wu1, bounds_u64 wu2, bounds_i64 w6, bounds_i64 w7⟩
end
theorem right_any (id par : Int) (lf : Bool) (r0 r1 r2 l0 l1 l2 u0 u1 u2 pk by_ : Int) (w : World) (hr : 0 ≤ r0 ∧ 0 ≤ r1 ∧ 0 ≤ r2) (hl : 0 ≤ l0 ∧ 0 ≤ l1 ∧ 0 ≤ l2) (hu : 0 ≤ u0 ∧ 0 ≤ u1 ∧ 0 ≤ u2) (c : Int) (h : wr id par lf (kd r0 r1 r2) (kd l0 l1 l2) (kd u0 u1 u2) pk by_ = c) :
    Calls Try.prog 20 #[cls id par lf r0 r1 r2 l0 l1 l2 u0 u1 u2 pk by_] w fun e w' => e = .returned (.int .i64 c) ∧ Below w.heap.size w w' := by
  subst h
  by_cases h : id < 1 ∨ 65536 < id ∨ par < 0 ∨ 65536 < par ∨ id = par
  · rw [show wr id par lf (kd r0 r1 r2) (kd l0 l1 l2) (kd u0 u1 u2) pk by_ = 1 by unfold wr; rw [if_pos h]]
    exact right_id id par lf r0 r1 r2 l0 l1 l2 u0 u1 u2 pk by_ w h
  have bad : (kd r0 r1 r2 = 0 ∨ kd l0 l1 l2 = 0 ∨ kd u0 u1 u2 = 0 ∨ kd l0 l1 l2 = 4 ∨ kd u0 u1 u2 = 4) → wr id par lf (kd r0 r1 r2) (kd l0 l1 l2) (kd u0 u1 u2) pk by_ = 21 := by
    intro hb; unfold wr; rw [if_neg h, if_pos hb]
  have hid : 1 ≤ id ∧ id ≤ 65536 := by omega
  have hpar : 0 ≤ par ∧ par ≤ 65536 := by omega
  have hne : id ≠ par := by omega
  rcases qr : (kd r0 r1 r2 != 0) with _ | _
  · rw [bad (.inl (by simpa using qr))]; exact right_r0 id par lf r0 r1 r2 l0 l1 l2 u0 u1 u2 pk by_ w hr hl hu hid hpar hne qr
  rcases ql : (kd l0 l1 l2 != 0) with _ | _
  · rw [bad (.inr (.inl (by simpa using ql)))]; exact right_l0 id par lf r0 r1 r2 l0 l1 l2 u0 u1 u2 pk by_ w hr hl hu hid hpar hne qr ql
  rcases sl : (kd l0 l1 l2 == 4) with _ | _
  case true => rw [bad (.inr (.inr (.inr (.inl (by simpa using sl)))))]; exact right_l4 id par lf r0 r1 r2 l0 l1 l2 u0 u1 u2 pk by_ w hr hl hu hid hpar hne qr ql sl
  rcases qu : (kd u0 u1 u2 != 0) with _ | _
  · rw [bad (.inr (.inr (.inl (by simpa using qu))))]; exact right_u0 id par lf r0 r1 r2 l0 l1 l2 u0 u1 u2 pk by_ w hr hl hu hid hpar hne qr ql qu sl
  rcases su : (kd u0 u1 u2 == 4) with _ | _
  case true => rw [bad (.inr (.inr (.inr (.inr (by simpa using su)))))]; exact right_u4 id par lf r0 r1 r2 l0 l1 l2 u0 u1 u2 pk by_ w hr hl hu hid hpar hne qr ql qu sl su
  cases lf
  · exact right_ok_false id par r0 r1 r2 l0 l1 l2 u0 u1 u2 pk by_ w hr hl hu hid hpar hne qr ql qu sl su
  · exact right_ok_true id par r0 r1 r2 l0 l1 l2 u0 u1 u2 pk by_ w hr hl hu hid hpar hne qr ql qu sl su
theorem rb (w : World) (id par : Int) (lf : Bool) (r0 r1 r2 l0 l1 l2 u0 u1 u2 pk by_ : Int) (h : 0 ≤ r0 ∧ 0 ≤ r1 ∧ 0 ≤ r2) (b : Bool) (hb : gt1 (kd r0 r1 r2) = b) :
    Calls Try.prog 22 #[cls id par lf r0 r1 r2 l0 l1 l2 u0 u1 u2 pk by_] w fun e w' => e = .returned (.bool b) ∧ Below w.heap.size w w' := by subst hb; exact real_any _ _ _ _ _ _ _ _ _ _ _ _ _ _ w h
theorem lb (w : World) (id par : Int) (lf : Bool) (r0 r1 r2 l0 l1 l2 u0 u1 u2 pk by_ : Int) (h : 0 ≤ l0 ∧ 0 ≤ l1 ∧ 0 ≤ l2) (b : Bool) (hb : gt1 (kd l0 l1 l2) = b) :
    Calls Try.prog 24 #[cls id par lf r0 r1 r2 l0 l1 l2 u0 u1 u2 pk by_] w fun e w' => e = .returned (.bool b) ∧ Below w.heap.size w w' := by subst hb; exact shares_any _ _ _ _ _ _ _ _ _ _ _ _ _ _ w h
theorem ub (w : World) (id par : Int) (lf : Bool) (r0 r1 r2 l0 l1 l2 u0 u1 u2 pk by_ : Int) (h : 0 ≤ u0 ∧ 0 ≤ u1 ∧ 0 ≤ u2) (b : Bool) (hb : gt1 (kd u0 u1 u2) = b) :
    Calls Try.prog 25 #[cls id par lf r0 r1 r2 l0 l1 l2 u0 u1 u2 pk by_] w fun e w' => e = .returned (.bool b) ∧ Below w.heap.size w w' := by subst hb; exact capped_any _ _ _ _ _ _ _ _ _ _ _ _ _ _ w h
set_option maxHeartbeats 1000000 in
theorem leaf_true (w : World) :
    Calls Try.prog 26 #[] w fun e w' => e = .returned (.bool true) ∧ Below w.heap.size w w' := by
  have Z : (0 : Int) ≤ 0 ∧ (0 : Int) ≤ 0 ∧ (0 : Int) ≤ 0 := by omega
  have F : (0 : Int) ≤ 5 ∧ (0 : Int) ≤ 0 ∧ (0 : Int) ≤ 5 := by omega
  go_enter Try.func26, Try.ntmps26
  go_wp2_with fail
  refine (right_any 1 0 true 0 0 0 5 0 5 0 0 0 3 100 _ Z F Z 0 (by decide +kernel)).mono ?_
  rintro e w1 ⟨rfl, hb1⟩
  have A1 : Blk w1 (w.heap.size) #[.int .i64 1, .int .i64 0, .bool true, .int .u64 0, .int .u64 0, .int .u64 0, .int .u64 5, .int .u64 0, .int .u64 5, .int .u64 0, .int .u64 0, .int .u64 0, .int .i64 3, .int .i64 100] 32 := Blk.below (by (repeat' (first | (with_reducible assumption) | (with_reducible exact Blk.alloc_new _ _ _ (by first | rfl | (simp; done) | omega)) | (with_reducible refine Blk.drewN ?_ _) | (with_reducible refine Blk.drew ?_) | (with_reducible refine Blk.alloc_old ?_ _) | (with_reducible apply Blk.set_same) | (with_reducible refine Blk.set_other ?_ (by first | omega | (simp; done) | (simp; omega)) _) | (exact rfl)))) hb1 (by first | (simp; done) | omega | (simp; omega))
  have D1 : Blk w1 (w.heap.size + 1) #[.int .i64 1, .int .i64 0, .bool false, .int .u64 0, .int .u64 0, .int .u64 0, .int .u64 5, .int .u64 0, .int .u64 5, .int .u64 0, .int .u64 0, .int .u64 0, .int .i64 3, .int .i64 100] 32 := Blk.below (by (repeat' (first | (with_reducible assumption) | (with_reducible exact Blk.alloc_new _ _ _ (by first | rfl | (simp; done) | omega)) | (with_reducible refine Blk.drewN ?_ _) | (with_reducible refine Blk.drew ?_) | (with_reducible refine Blk.alloc_old ?_ _) | (with_reducible apply Blk.set_same) | (with_reducible refine Blk.set_other ?_ (by first | omega | (simp; done) | (simp; omega)) _) | (exact rfl)))) hb1 (by first | (simp; done) | omega | (simp; omega))
  have g1 : Below w.heap.size w w1 := by refine Below.trans ?_ (hb1.mono ?_) <;> (repeat' (first | (with_reducible exact Below.refl _ _) | (with_reducible assumption) | (with_reducible refine below_drewN ?_ _) | (with_reducible refine Below.drew ?_) | (with_reducible refine Below.alloc ?_ ?_ _) | (with_reducible refine Below.setCell ?_ ?_ _) | go_size))
  have hz1 := hb1.size
  (try simp at hz1)
  clear hb1
  replace cA := A1.cell
  replace fA := A1.frozen
  replace zA := A1.size
  replace cD := D1.cell
  replace fD := D1.frozen
  replace zD := D1.size
  go_wp2_with fail
  refine (right_any 1 0 false 0 0 0 5 0 5 0 0 0 3 100 _ Z F Z 29 (by decide +kernel)).mono ?_
  rintro e w2 ⟨rfl, hb2⟩
  have A2 : Blk w2 (w.heap.size) #[.int .i64 1, .int .i64 0, .bool true, .int .u64 0, .int .u64 0, .int .u64 0, .int .u64 5, .int .u64 0, .int .u64 5, .int .u64 0, .int .u64 0, .int .u64 0, .int .i64 3, .int .i64 100] 32 := Blk.below (by (repeat' (first | (with_reducible assumption) | (with_reducible exact Blk.alloc_new _ _ _ (by first | rfl | (simp; done) | omega)) | (with_reducible refine Blk.drewN ?_ _) | (with_reducible refine Blk.drew ?_) | (with_reducible refine Blk.alloc_old ?_ _) | (with_reducible apply Blk.set_same) | (with_reducible refine Blk.set_other ?_ (by first | omega | (simp; done) | (simp; omega)) _) | (exact rfl)))) hb2 (by first | (simp; done) | omega | (simp; omega))
  have D2 : Blk w2 (w.heap.size + 1) #[.int .i64 1, .int .i64 0, .bool false, .int .u64 0, .int .u64 0, .int .u64 0, .int .u64 5, .int .u64 0, .int .u64 5, .int .u64 0, .int .u64 0, .int .u64 0, .int .i64 3, .int .i64 100] 32 := Blk.below (by (repeat' (first | (with_reducible assumption) | (with_reducible exact Blk.alloc_new _ _ _ (by first | rfl | (simp; done) | omega)) | (with_reducible refine Blk.drewN ?_ _) | (with_reducible refine Blk.drew ?_) | (with_reducible refine Blk.alloc_old ?_ _) | (with_reducible apply Blk.set_same) | (with_reducible refine Blk.set_other ?_ (by first | omega | (simp; done) | (simp; omega)) _) | (exact rfl)))) hb2 (by first | (simp; done) | omega | (simp; omega))
  have g2 : Below w.heap.size w w2 := by refine Below.trans ?_ (hb2.mono ?_) <;> (repeat' (first | (with_reducible exact Below.refl _ _) | (with_reducible assumption) | (with_reducible refine below_drewN ?_ _) | (with_reducible refine Below.drew ?_) | (with_reducible refine Below.alloc ?_ ?_ _) | (with_reducible refine Below.setCell ?_ ?_ _) | go_size))
  have hz2 := hb2.size
  (try simp at hz2)
  clear hb2
  replace cA := A2.cell
  replace fA := A2.frozen
  replace zA := A2.size
  replace cD := D2.cell
  replace fD := D2.frozen
  replace zD := D2.size
  go_wp2_with fail
  refine (lb _ 1 0 true 0 0 0 5 0 5 0 0 0 3 100 F true (by decide +kernel)).mono ?_
  rintro e w3 ⟨rfl, hb3⟩
  have A3 : Blk w3 (w.heap.size) #[.int .i64 1, .int .i64 0, .bool true, .int .u64 0, .int .u64 0, .int .u64 0, .int .u64 5, .int .u64 0, .int .u64 5, .int .u64 0, .int .u64 0, .int .u64 0, .int .i64 3, .int .i64 100] 32 := Blk.below (by (repeat' (first | (with_reducible assumption) | (with_reducible exact Blk.alloc_new _ _ _ (by first | rfl | (simp; done) | omega)) | (with_reducible refine Blk.drewN ?_ _) | (with_reducible refine Blk.drew ?_) | (with_reducible refine Blk.alloc_old ?_ _) | (with_reducible apply Blk.set_same) | (with_reducible refine Blk.set_other ?_ (by first | omega | (simp; done) | (simp; omega)) _) | (exact rfl)))) hb3 (by first | (simp; done) | omega | (simp; omega))
  have D3 : Blk w3 (w.heap.size + 1) #[.int .i64 1, .int .i64 0, .bool false, .int .u64 0, .int .u64 0, .int .u64 0, .int .u64 5, .int .u64 0, .int .u64 5, .int .u64 0, .int .u64 0, .int .u64 0, .int .i64 3, .int .i64 100] 32 := Blk.below (by (repeat' (first | (with_reducible assumption) | (with_reducible exact Blk.alloc_new _ _ _ (by first | rfl | (simp; done) | omega)) | (with_reducible refine Blk.drewN ?_ _) | (with_reducible refine Blk.drew ?_) | (with_reducible refine Blk.alloc_old ?_ _) | (with_reducible apply Blk.set_same) | (with_reducible refine Blk.set_other ?_ (by first | omega | (simp; done) | (simp; omega)) _) | (exact rfl)))) hb3 (by first | (simp; done) | omega | (simp; omega))
  have g3 : Below w.heap.size w w3 := by refine Below.trans ?_ (hb3.mono ?_) <;> (repeat' (first | (with_reducible exact Below.refl _ _) | (with_reducible assumption) | (with_reducible refine below_drewN ?_ _) | (with_reducible refine Below.drew ?_) | (with_reducible refine Below.alloc ?_ ?_ _) | (with_reducible refine Below.setCell ?_ ?_ _) | go_size))
  have hz3 := hb3.size
  (try simp at hz3)
  clear hb3
  replace cA := A3.cell
  replace fA := A3.frozen
  replace zA := A3.size
  replace cD := D3.cell
  replace fD := D3.frozen
  replace zD := D3.size
  go_wp2_with fail
  refine (rb _ 1 0 true 0 0 0 5 0 5 0 0 0 3 100 Z false (by decide +kernel)).mono ?_
  rintro e w4 ⟨rfl, hb4⟩
  have A4 : Blk w4 (w.heap.size) #[.int .i64 1, .int .i64 0, .bool true, .int .u64 0, .int .u64 0, .int .u64 0, .int .u64 5, .int .u64 0, .int .u64 5, .int .u64 0, .int .u64 0, .int .u64 0, .int .i64 3, .int .i64 100] 32 := Blk.below (by (repeat' (first | (with_reducible assumption) | (with_reducible exact Blk.alloc_new _ _ _ (by first | rfl | (simp; done) | omega)) | (with_reducible refine Blk.drewN ?_ _) | (with_reducible refine Blk.drew ?_) | (with_reducible refine Blk.alloc_old ?_ _) | (with_reducible apply Blk.set_same) | (with_reducible refine Blk.set_other ?_ (by first | omega | (simp; done) | (simp; omega)) _) | (exact rfl)))) hb4 (by first | (simp; done) | omega | (simp; omega))
  have D4 : Blk w4 (w.heap.size + 1) #[.int .i64 1, .int .i64 0, .bool false, .int .u64 0, .int .u64 0, .int .u64 0, .int .u64 5, .int .u64 0, .int .u64 5, .int .u64 0, .int .u64 0, .int .u64 0, .int .i64 3, .int .i64 100] 32 := Blk.below (by (repeat' (first | (with_reducible assumption) | (with_reducible exact Blk.alloc_new _ _ _ (by first | rfl | (simp; done) | omega)) | (with_reducible refine Blk.drewN ?_ _) | (with_reducible refine Blk.drew ?_) | (with_reducible refine Blk.alloc_old ?_ _) | (with_reducible apply Blk.set_same) | (with_reducible refine Blk.set_other ?_ (by first | omega | (simp; done) | (simp; omega)) _) | (exact rfl)))) hb4 (by first | (simp; done) | omega | (simp; omega))
  have g4 : Below w.heap.size w w4 := by refine Below.trans ?_ (hb4.mono ?_) <;> (repeat' (first | (with_reducible exact Below.refl _ _) | (with_reducible assumption) | (with_reducible refine below_drewN ?_ _) | (with_reducible refine Below.drew ?_) | (with_reducible refine Below.alloc ?_ ?_ _) | (with_reducible refine Below.setCell ?_ ?_ _) | go_size))
  have hz4 := hb4.size
  (try simp at hz4)
  clear hb4
  replace cA := A4.cell
  replace fA := A4.frozen
  replace zA := A4.size
  replace cD := D4.cell
  replace fD := D4.frozen
  replace zD := D4.size
  go_wp2_with fail
  refine (ub _ 1 0 true 0 0 0 5 0 5 0 0 0 3 100 Z false (by decide +kernel)).mono ?_
  rintro e w5 ⟨rfl, hb5⟩
  have A5 : Blk w5 (w.heap.size) #[.int .i64 1, .int .i64 0, .bool true, .int .u64 0, .int .u64 0, .int .u64 0, .int .u64 5, .int .u64 0, .int .u64 5, .int .u64 0, .int .u64 0, .int .u64 0, .int .i64 3, .int .i64 100] 32 := Blk.below (by (repeat' (first | (with_reducible assumption) | (with_reducible exact Blk.alloc_new _ _ _ (by first | rfl | (simp; done) | omega)) | (with_reducible refine Blk.drewN ?_ _) | (with_reducible refine Blk.drew ?_) | (with_reducible refine Blk.alloc_old ?_ _) | (with_reducible apply Blk.set_same) | (with_reducible refine Blk.set_other ?_ (by first | omega | (simp; done) | (simp; omega)) _) | (exact rfl)))) hb5 (by first | (simp; done) | omega | (simp; omega))
  have D5 : Blk w5 (w.heap.size + 1) #[.int .i64 1, .int .i64 0, .bool false, .int .u64 0, .int .u64 0, .int .u64 0, .int .u64 5, .int .u64 0, .int .u64 5, .int .u64 0, .int .u64 0, .int .u64 0, .int .i64 3, .int .i64 100] 32 := Blk.below (by (repeat' (first | (with_reducible assumption) | (with_reducible exact Blk.alloc_new _ _ _ (by first | rfl | (simp; done) | omega)) | (with_reducible refine Blk.drewN ?_ _) | (with_reducible refine Blk.drew ?_) | (with_reducible refine Blk.alloc_old ?_ _) | (with_reducible apply Blk.set_same) | (with_reducible refine Blk.set_other ?_ (by first | omega | (simp; done) | (simp; omega)) _) | (exact rfl)))) hb5 (by first | (simp; done) | omega | (simp; omega))
  have g5 : Below w.heap.size w w5 := by refine Below.trans ?_ (hb5.mono ?_) <;> (repeat' (first | (with_reducible exact Below.refl _ _) | (with_reducible assumption) | (with_reducible refine below_drewN ?_ _) | (with_reducible refine Below.drew ?_) | (with_reducible refine Below.alloc ?_ ?_ _) | (with_reducible refine Below.setCell ?_ ?_ _) | go_size))
  have hz5 := hb5.size
  (try simp at hz5)
  clear hb5
  replace cA := A5.cell
  replace fA := A5.frozen
  replace zA := A5.size
  replace cD := D5.cell
  replace fD := D5.frozen
  replace zD := D5.size
  go_wp2
  go_ret
  exact ⟨rfl, by (repeat' (first | (with_reducible exact Below.refl _ _) | (with_reducible assumption) | (with_reducible refine below_drewN ?_ _) | (with_reducible refine Below.drew ?_) | (with_reducible refine Below.alloc ?_ ?_ _) | (with_reducible refine Below.setCell ?_ ?_ _) | go_size))⟩
end Go.Proofs.Ytapikbgloagnkaa
