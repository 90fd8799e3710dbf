/-
  'floodgatelaw45.FlowBack' returns true for every input. Conditions: none.
-/
import Derived.Test.YtljpiofpfankoaaFlQ
import Derived.Test.YtljpiofpfankoaaIpT
namespace Go.Proofs.Ytljpiofpfankoaa
open Go.RowKit Go.Sort Go.ChangeShapes Go.WideShapes Go.ChangeAt
open Go.ChangeMaps (open_string shut_string)
set_option linter.unusedVariables false
set_option linter.unusedSimpArgs false
theorem ip44hlist9 {α : Type} {l : List α} (h : l.length = 9) : ∃ a0 a1 a2 a3 a4 a5 a6 a7 a8, l = [a0, a1, a2, a3, a4, a5, a6, a7, a8] := by
  match l, h with
  | [a0, a1, a2, a3, a4, a5, a6, a7, a8], _ => exact ⟨a0, a1, a2, a3, a4, a5, a6, a7, a8, rfl⟩
theorem cells_ip44h {H : Type} {w : World} {base : Nat} {spare : Nat → Bool} {held : Bool} {enc : TypeId × Value → H} {fuel : Nat} {c0 c1 c2 c3 c4 c5 c6 c7 c8 : Value} {x : DataW H × List MemPlace} (hf : DataW.trod enc Try.prog w base spare held fuel 70 [c0, c1, c2, c3, c4, c5, c6, c7, c8] = some x) :
    ∃ (x0 x1 x2 x3 x4 x5 x6 x7 : Int) (s : ByteArray), [c0, c1, c2, c3, c4, c5, c6, c7, c8] = [.int .u8 x0, .int .u16 x1, .int .u8 x2, .int .u16 x3, .int .u8 x4, .int .u8 x5, .int .u32 x6, .int .u32 x7, .string s] ∧ (0 ≤ x0 ∧ x0 ≤ 255) ∧ (0 ≤ x1 ∧ x1 ≤ 65535) ∧ (0 ≤ x2 ∧ x2 ≤ 255) ∧ (0 ≤ x3 ∧ x3 ≤ 65535) ∧ (0 ≤ x4 ∧ x4 ≤ 255) ∧ (0 ≤ x5 ∧ x5 ≤ 255) ∧ (0 ≤ x6 ∧ x6 ≤ 4294967295) ∧ (0 ≤ x7 ∧ x7 ≤ 4294967295) ∧ DataW.weights Try.prog 70 x.1 = [s.size] := by
  have k0 : Try.prog.cellsOf 70 = 9 := by kernel_rfl
  have k1 : Try.prog.cellsOf 5 = 1 := by kernel_rfl
  have k2 : Try.prog.cellsOf 46 = 1 := by kernel_rfl
  have k3 : Try.prog.cellsOf 68 = 1 := by kernel_rfl
  have k4 : Try.prog.cellsOf 9 = 1 := by kernel_rfl
  obtain ⟨ys, m, _, hx1, _, hl, hx⟩ := DataW.trod_struct Try.underlying70 hf
  obtain ⟨y0, y1, y2, y3, y4, y5, y6, y7, y8, rfl⟩ := ip44hlist9 hl
  have q0 := hx 0 _ rfl
  have q1 := hx 1 _ rfl
  have q2 := hx 2 _ rfl
  have q3 := hx 3 _ rfl
  have q4 := hx 4 _ rfl
  have q5 := hx 5 _ rfl
  have q6 := hx 6 _ rfl
  have q7 := hx 7 _ rfl
  have q8 := hx 8 _ rfl
  simp [k1, k2, k3, k4] at q0 q1 q2 q3 q4 q5 q6 q7 q8
  obtain ⟨x0, e0, d0, w0⟩ := DataW.trod_int Try.underlying5 q0
  obtain ⟨x1, e1, d1, w1⟩ := DataW.trod_int Try.underlying46 q1
  obtain ⟨x2, e2, d2, w2⟩ := DataW.trod_int Try.underlying5 q2
  obtain ⟨x3, e3, d3, w3⟩ := DataW.trod_int Try.underlying46 q3
  obtain ⟨x4, e4, d4, w4⟩ := DataW.trod_int Try.underlying5 q4
  obtain ⟨x5, e5, d5, w5⟩ := DataW.trod_int Try.underlying5 q5
  obtain ⟨x6, e6, d6, w6⟩ := DataW.trod_int Try.underlying68 q6
  obtain ⟨x7, e7, d7, w7⟩ := DataW.trod_int Try.underlying68 q7
  obtain ⟨s, e8, d8, w8⟩ := DataW.trod_string Try.underlying9 q8
  simp at e0 e1 e2 e3 e4 e5 e6 e7 e8
  subst e0 e1 e2 e3 e4 e5 e6 e7 e8
  refine ⟨x0, x1, x2, x3, x4, x5, x6, x7, s, rfl, bounds_u8 w0, bounds_u16 w1, bounds_u8 w2, bounds_u16 w3, bounds_u8 w4, bounds_u8 w5, bounds_u32 w6, bounds_u32 w7, ?_⟩
  rw [hx1]; simp [d0, d1, d2, d3, d4, d5, d6, d7, d8, DataW.weights, DataW.weightsEach, Try.underlying70]
set_option maxRecDepth 100000 in
theorem open_ip44h {H : Type} {w : World} {base : Nat} {spare : Nat → Bool} {held : Bool} {enc : TypeId × Value → H} {r : Reach} {b0 : Nat} {v : Value} {d : DataW H} {p : List MemPlace} (hv : Value.okWide Try.prog w r b0 70 v) (h : DataW.Trod enc Try.prog w base spare held 70 v d p) :
    ∃ (h : HD) (s : ByteArray), v = hdv h ∧ h.ok ∧ h.o = numsOf s ∧ DataW.weights Try.prog 70 d = [s.size] := by
  obtain ⟨cs, rfl, hsz⟩ := okWide_struct Try.underlying70 hv
  obtain ⟨l⟩ := cs
  obtain ⟨c0, c1, c2, c3, c4, c5, c6, c7, c8, rfl⟩ := ip44hlist9 (l := l) (hsz.trans (show Try.prog.cellsOf 70 = 9 by kernel_rfl))
  obtain ⟨fuel, hf⟩ := h
  obtain ⟨x0, x1, x2, x3, x4, x5, x6, x7, s, e, b0, b1, b2, b3, b4, b5, b6, b7, hw⟩ := cells_ip44h (x := (d, p)) (show DataW.trod enc Try.prog w base spare held fuel 70 [c0, c1, c2, c3, c4, c5, c6, c7, c8] = some (d, p) by simpa [Value.cells] using hf)
  simp at e
  obtain ⟨rfl, rfl, rfl, rfl, rfl, rfl, rfl, rfl, rfl⟩ := e
  refine ⟨⟨x0, x1, x2, x3, x4, x5, x6, x7, numsOf s⟩, s, ?_, ⟨b0, b1, b2, b3, b4, b5, b6, b7, numsOf_byt s⟩, rfl, hw⟩
  rw [numsOf_sv s]
theorem ports45list4 {α : Type} {l : List α} (h : l.length = 4) : ∃ a0 a1 a2 a3, l = [a0, a1, a2, a3] := by
  match l, h with
  | [a0, a1, a2, a3], _ => exact ⟨a0, a1, a2, a3, rfl⟩
theorem cells_ports45 {H : Type} {w : World} {base : Nat} {spare : Nat → Bool} {held : Bool} {enc : TypeId × Value → H} {fuel : Nat} {c0 c1 c2 c3 : Value} {x : DataW H × List MemPlace} (hf : DataW.trod enc Try.prog w base spare held fuel 71 [c0, c1, c2, c3] = some x) :
    ∃ (x0 : Int) (x1 : Int) (x2 : Int) (x3 : Int), [c0, c1, c2, c3] = [.int .u8 x0, .int .u8 x1, .int .u8 x2, .int .u8 x3] ∧ (0 ≤ x0 ∧ x0 ≤ 255) ∧ (0 ≤ x1 ∧ x1 ≤ 255) ∧ (0 ≤ x2 ∧ x2 ≤ 255) ∧ (0 ≤ x3 ∧ x3 ≤ 255) := by
  have k0 : Try.prog.cellsOf 71 = 4 := by kernel_rfl
  have k1 : Try.prog.cellsOf 5 = 1 := by kernel_rfl
  obtain ⟨ys0, m0, _, _, _, hl0, hx0⟩ := DataW.trod_array Try.underlying71 hf
  obtain ⟨y0_0, y0_1, y0_2, y0_3, rfl⟩ := ports45list4 hl0
  have q0_0 := hx0 0 (by simp)
  have q0_1 := hx0 1 (by simp)
  have q0_2 := hx0 2 (by simp)
  have q0_3 := hx0 3 (by simp)
  simp [k1] at q0_0 q0_1 q0_2 q0_3
  obtain ⟨x0, e0, _, w0⟩ := DataW.trod_int Try.underlying5 q0_0
  obtain ⟨x1, e1, _, w1⟩ := DataW.trod_int Try.underlying5 q0_1
  obtain ⟨x2, e2, _, w2⟩ := DataW.trod_int Try.underlying5 q0_2
  obtain ⟨x3, e3, _, w3⟩ := DataW.trod_int Try.underlying5 q0_3
  simp at e0 e1 e2 e3
  subst e0 e1 e2 e3
  exact ⟨x0, x1, x2, x3, rfl, bounds_u8 w0, bounds_u8 w1, bounds_u8 w2, bounds_u8 w3⟩
set_option maxRecDepth 100000 in
theorem open_ports45 {H : Type} {w : World} {base : Nat} {spare : Nat → Bool} {held : Bool} {enc : TypeId × Value → H} {r : Reach} {b0 : Nat} {v : Value} {d : DataW H} {p : List MemPlace} (hv : Value.okWide Try.prog w r b0 71 v) (h : DataW.Trod enc Try.prog w base spare held 71 v d p) :
    ∃ (x0 : Int) (x1 : Int) (x2 : Int) (x3 : Int), v = .agg #[.int .u8 x0, .int .u8 x1, .int .u8 x2, .int .u8 x3] ∧ (0 ≤ x0 ∧ x0 ≤ 255) ∧ (0 ≤ x1 ∧ x1 ≤ 255) ∧ (0 ≤ x2 ∧ x2 ≤ 255) ∧ (0 ≤ x3 ∧ x3 ≤ 255) := by
  obtain ⟨cs, rfl, hsz⟩ := okWide_arr Try.underlying71 hv
  obtain ⟨l⟩ := cs
  obtain ⟨c0, c1, c2, c3, rfl⟩ := ports45list4 (l := l) (hsz.trans (show Try.prog.cellsOf 71 = 4 by kernel_rfl))
  obtain ⟨fuel, hf⟩ := h
  obtain ⟨x0, x1, x2, x3, e, bs⟩ := cells_ports45 (x := (d, p)) (show DataW.trod enc Try.prog w base spare held fuel 71 [c0, c1, c2, c3] = some (d, p) by simpa [Value.cells] using hf)
  simp at e
  obtain ⟨rfl, rfl, rfl, rfl⟩ := e
  exact ⟨x0, x1, x2, x3, rfl, bs⟩
set_option maxRecDepth 100000 in
set_option maxHeartbeats 4000000 in
theorem back_bad (h : HD) (r s t : List Int) (p0 p1 p2 p3 x : Int) (w : World) (g0 : 0 ≤ p0 ∧ p0 ≤ 255) (g1 : 0 ≤ p1 ∧ p1 ≤ 255) (g2 : 0 ≤ p2 ∧ p2 ≤ 255) (g3 : 0 ≤ p3 ∧ p3 ≤ 255) (hb : r.length ≤ 4611686018427387904) (hx : x ≠ 0)
    (KE1 : Hid (∀ v, Calls Try.prog 31 #[.agg #[.int .u8 h.tos, .int .u16 h.id, .int .u8 h.fl, .int .u16 0, .int .u8 h.ttl, .int .u8 17, .int .u32 h.src, .int .u32 h.dst, SV h.o], SV (p0 :: p1 :: p2 :: p3 :: r)] v fun e w' => e = .returned (.tuple #[.string ⟨#[]⟩, .int .i64 x]) ∧ Below v.heap.size v w'))
    (KE2 : Hid (∀ v, Calls Try.prog 31 #[.agg #[.int .u8 h.tos, .int .u16 h.id, .int .u8 h.fl, .int .u16 0, .int .u8 h.ttl, .int .u8 17, .int .u32 h.dst, .int .u32 h.src, SV h.o], SV (p2 :: p3 :: p0 :: p1 :: r)] v fun e w' => e = .returned (.tuple #[.string ⟨#[]⟩, .int .i64 x]) ∧ Below v.heap.size v w')) :
    Calls Try.prog 8 #[.agg #[.int .u8 h.tos, .int .u16 h.id, .int .u8 h.fl, .int .u16 h.off, .int .u8 h.ttl, .int .u8 h.pr, .int .u32 h.src, .int .u32 h.dst, SV h.o], .agg #[.int .u8 p0, .int .u8 p1, .int .u8 p2, .int .u8 p3], SV r] w fun e w' => e = .returned (.bool true) ∧ Below w.heap.size w w' := by
  have ks := sv_size
  have k4 := kconv4; have ki := intOf_int
  have add1 : ∀ v, (Op.stringOp .add (strOfNums [p0, p1, p2, p3]) (strOfNums r)).run Try.prog v = .ok (SV (p0 :: p1 :: p2 :: p3 :: r)) v := fun v => by
    exact (run_string_add_sum v _ _ (by rw [sv_size, sv_size]; simp; omega)).trans (by rw [strOf_app]; rfl)
  have add2 : ∀ v, (binOp .add 9 (SV [p0, p1, p2, p3]) (SV r)).run Try.prog v = .ok (SV (p0 :: p1 :: p2 :: p3 :: r)) v := fun v => by
    show Sem.run Try.prog (binOp .add 9 (.string _) (.string _)) v = _
    rw [binOp_string_add]; exact add1 v
  have add3 : ∀ v, (Op.stringOp .add (strOfNums [p2, p3, p0, p1]) (strOfNums r)).run Try.prog v = .ok (SV (p2 :: p3 :: p0 :: p1 :: r)) v := fun v => by
    exact (run_string_add_sum v _ _ (by rw [sv_size, sv_size]; simp; omega)).trans (by rw [strOf_app]; rfl)
  have add4 : ∀ v, (binOp .add 9 (SV [p2, p3, p0, p1]) (SV r)).run Try.prog v = .ok (SV (p2 :: p3 :: p0 :: p1 :: r)) v := fun v => by
    show Sem.run Try.prog (binOp .add 9 (.string _) (.string _)) v = _
    rw [binOp_string_add]; exact add3 v
  have hxb : (x != 0) = true := bne_iff_ne.2 hx
  go_enter Try.func8, Try.ntmps8
  go_upto_region 3 with (fail)
  refine wp_forget (fun v => Below w.heap.size w v ∧ Blk v (w.heap.size) #[.int .u8 h.tos, .int .u16 h.id, .int .u8 h.fl, .int .u16 0, .int .u8 h.ttl, .int .u8 17, .int .u32 h.src, .int .u32 h.dst, SV h.o] 70 ∧ Blk v (w.heap.size + 1) #[.int .u8 p0, .int .u8 p1, .int .u8 p2, .int .u8 p3] 71) ⟨by (repeat' (first | (with_reducible (first | exact Below.refl _ _ | assumption | refine below_drewN ?_ _ | refine Below.drew ?_ | refine Below.alloc ?_ ?_ _ | refine Below.setCell ?_ ?_ _)) | go_size)), by (repeat' (first | (with_reducible (first | assumption | exact Blk.alloc_new _ _ _ (by first | rfl | (simp; done) | omega) | apply Blk.drewN | apply Blk.drew | apply Blk.alloc_old | apply Blk.set_same | apply Blk.set_other)) | (show (_ : Nat) ≠ _; first | omega | (simp; done) | (simp; omega)) | ((simp only [List.setIfInBounds_toArray, List.set_cons_succ, List.set_cons_zero]); (with_reducible exact rfl)) | (with_reducible exact rfl) | (show (_ : Array Value) = _; exact rfl))), by (repeat' (first | (with_reducible (first | assumption | exact Blk.alloc_new _ _ _ (by first | rfl | (simp; done) | omega) | apply Blk.drewN | apply Blk.drew | apply Blk.alloc_old | apply Blk.set_same | apply Blk.set_other)) | (show (_ : Nat) ≠ _; first | omega | (simp; done) | (simp; omega)) | ((simp only [List.setIfInBounds_toArray, List.set_cons_succ, List.set_cons_zero]); (with_reducible exact rfl)) | (with_reducible exact rfl) | (show (_ : Array Value) = _; exact rfl)))⟩ ?_
  rintro v1 ⟨gv1, Av1, Bv1⟩
  have qA1 := blk_calm Av1
  have qB1 := blk_calm Bv1
  refine wp_region_quiet_below (by kernel_rfl) (by kernel_rfl) ?_
  repeat (go_big_quiet_step ((first
      | (go_at_call 31; (with_reducible exact Calls.regrown_of (KE1.out _))))))
  refine wpQuiet_nil ?_
  intro _ hw'
  obtain ⟨pq, hw''⟩ := hw'
  subst hw''
  have hb1 := below_regrown v1 pq.d pq.os
  generalize Sort.grow (redrawn v1 pq.d) pq.os = w1 at *
  have A1 : Blk w1 (w.heap.size) #[.int .u8 h.tos, .int .u16 h.id, .int .u8 h.fl, .int .u16 0, .int .u8 h.ttl, .int .u8 17, .int .u32 h.src, .int .u32 h.dst, SV h.o] 70 := Blk.below Av1 hb1 Av1.size
  have B1 : Blk w1 (w.heap.size + 1) #[.int .u8 p0, .int .u8 p1, .int .u8 p2, .int .u8 p3] 71 := Blk.below Bv1 hb1 Bv1.size
  have g1 : Below w.heap.size w w1 := gv1.trans (hb1.mono gv1.size)
  have hz1 : w.heap.size ≤ w1.heap.size := g1.size
  clear hb1 gv1 Av1 qA1 Bv1 qB1
  replace cA := A1.cell
  replace fA := A1.frozen
  replace zA := A1.size
  replace cB := B1.cell
  replace fB := B1.frozen
  replace zB := B1.size
  go_wp2_with fail
  refine (KE2.out _).mono ?_
  rintro e w2 ⟨rfl, hb2⟩
  have A2 : Blk w2 (w.heap.size) #[.int .u8 h.tos, .int .u16 h.id, .int .u8 h.fl, .int .u16 0, .int .u8 h.ttl, .int .u8 17, .int .u32 h.dst, .int .u32 h.src, SV h.o] 70 := Blk.below (by (repeat' (first | (with_reducible (first | assumption | exact Blk.alloc_new _ _ _ (by first | rfl | (simp; done) | omega) | apply Blk.drewN | apply Blk.drew | apply Blk.alloc_old | apply Blk.set_same | apply Blk.set_other)) | (show (_ : Nat) ≠ _; first | omega | (simp; done) | (simp; omega)) | ((simp only [List.setIfInBounds_toArray, List.set_cons_succ, List.set_cons_zero]); (with_reducible exact rfl)) | (with_reducible exact rfl) | (show (_ : Array Value) = _; exact rfl)))) hb2 (by first | (simp; done) | omega | (simp; omega))
  have B2 : Blk w2 (w.heap.size + 1) #[.int .u8 p0, .int .u8 p1, .int .u8 p2, .int .u8 p3] 71 := Blk.below (by (repeat' (first | (with_reducible (first | assumption | exact Blk.alloc_new _ _ _ (by first | rfl | (simp; done) | omega) | apply Blk.drewN | apply Blk.drew | apply Blk.alloc_old | apply Blk.set_same | apply Blk.set_other)) | (show (_ : Nat) ≠ _; first | omega | (simp; done) | (simp; omega)) | ((simp only [List.setIfInBounds_toArray, List.set_cons_succ, List.set_cons_zero]); (with_reducible exact rfl)) | (with_reducible exact rfl) | (show (_ : Array Value) = _; exact rfl)))) hb2 (by first | (simp; done) | omega | (simp; omega))
  have g2 : Below w.heap.size w w2 := by refine Below.trans ?_ (hb2.mono ?_) <;> (repeat' (first | (with_reducible (first | exact Below.refl _ _ | assumption | refine below_drewN ?_ _ | refine Below.drew ?_ | refine Below.alloc ?_ ?_ _ | refine Below.setCell ?_ ?_ _)) | go_size))
  have hz2 := hb2.size
  (try simp at hz2)
  clear hb2
  replace cA := A2.cell
  replace fA := A2.frozen
  replace zA := A2.size
  replace cB := B2.cell
  replace fB := B2.frozen
  replace zB := B2.size
  go_wp2_with fail
  refine (names_true _).mono ?_
  rintro e w3 ⟨rfl, hb3⟩
  have g3 : Below w.heap.size w w3 := by refine Below.trans ?_ (hb3.mono ?_) <;> (repeat' (first | (with_reducible (first | exact Below.refl _ _ | assumption | refine below_drewN ?_ _ | refine Below.drew ?_ | refine Below.alloc ?_ ?_ _ | refine Below.setCell ?_ ?_ _)) | go_size))
  have hz3 := hb3.size
  (try simp at hz3)
  clear hb3
  go_wp2
  go_ret
  exact ⟨rfl, by (repeat' (first | (with_reducible (first | exact Below.refl _ _ | assumption | refine below_drewN ?_ _ | refine Below.drew ?_ | refine Below.alloc ?_ ?_ _ | refine Below.setCell ?_ ?_ _)) | go_size))⟩
set_option maxRecDepth 100000 in
set_option maxHeartbeats 8000000 in
theorem back_ok (h : HD) (r s t : List Int) (p0 p1 p2 p3 x : Int) (w : World) (g0 : 0 ≤ p0 ∧ p0 ≤ 255) (g1 : 0 ≤ p1 ∧ p1 ≤ 255) (g2 : 0 ≤ p2 ∧ p2 ≤ 255) (g3 : 0 ≤ p3 ∧ p3 ≤ 255) (hb : r.length ≤ 4611686018427387904) (a0 a1 a2 a3 : Int)
    (KE1 : Hid (∀ v, Calls Try.prog 31 #[.agg #[.int .u8 h.tos, .int .u16 h.id, .int .u8 h.fl, .int .u16 0, .int .u8 h.ttl, .int .u8 17, .int .u32 h.src, .int .u32 h.dst, SV h.o], SV (p0 :: p1 :: p2 :: p3 :: r)] v fun e w' => e = .returned (.tuple #[SV s, .int .i64 0]) ∧ Below v.heap.size v w'))
    (KE2 : Hid (∀ v, Calls Try.prog 31 #[.agg #[.int .u8 h.tos, .int .u16 h.id, .int .u8 h.fl, .int .u16 0, .int .u8 h.ttl, .int .u8 17, .int .u32 h.dst, .int .u32 h.src, SV h.o], SV (p2 :: p3 :: p0 :: p1 :: r)] v fun e w' => e = .returned (.tuple #[SV t, .int .i64 0]) ∧ Below v.heap.size v w'))
    (KS : Hid (∀ v, Calls Try.prog 26 #[SV s] v fun e w' => e = .returned (.tuple #[.agg #[.int .u16 a0, .int .u16 a1, .int .u16 a2, .int .u16 a3], .int .i64 0]) ∧ Below v.heap.size v w'))
    (KT : Hid (∀ v, Calls Try.prog 26 #[SV t] v fun e w' => e = .returned (.tuple #[.agg #[.int .u16 a0, .int .u16 a2, .int .u16 a1, .int .u16 a3], .int .i64 0]) ∧ Below v.heap.size v w')) :
    Calls Try.prog 8 #[.agg #[.int .u8 h.tos, .int .u16 h.id, .int .u8 h.fl, .int .u16 h.off, .int .u8 h.ttl, .int .u8 h.pr, .int .u32 h.src, .int .u32 h.dst, SV h.o], .agg #[.int .u8 p0, .int .u8 p1, .int .u8 p2, .int .u8 p3], SV r] w fun e w' => e = .returned (.bool true) ∧ Below w.heap.size w w' := by
  have ks := sv_size
  have k4 := kconv4; have ki := intOf_int
  have add1 : ∀ v, (Op.stringOp .add (strOfNums [p0, p1, p2, p3]) (strOfNums r)).run Try.prog v = .ok (SV (p0 :: p1 :: p2 :: p3 :: r)) v := fun v => by
    exact (run_string_add_sum v _ _ (by rw [sv_size, sv_size]; simp; omega)).trans (by rw [strOf_app]; rfl)
  have add2 : ∀ v, (binOp .add 9 (SV [p0, p1, p2, p3]) (SV r)).run Try.prog v = .ok (SV (p0 :: p1 :: p2 :: p3 :: r)) v := fun v => by
    show Sem.run Try.prog (binOp .add 9 (.string _) (.string _)) v = _
    rw [binOp_string_add]; exact add1 v
  have add3 : ∀ v, (Op.stringOp .add (strOfNums [p2, p3, p0, p1]) (strOfNums r)).run Try.prog v = .ok (SV (p2 :: p3 :: p0 :: p1 :: r)) v := fun v => by
    exact (run_string_add_sum v _ _ (by rw [sv_size, sv_size]; simp; omega)).trans (by rw [strOf_app]; rfl)
  have add4 : ∀ v, (binOp .add 9 (SV [p2, p3, p0, p1]) (SV r)).run Try.prog v = .ok (SV (p2 :: p3 :: p0 :: p1 :: r)) v := fun v => by
    show Sem.run Try.prog (binOp .add 9 (.string _) (.string _)) v = _
    rw [binOp_string_add]; exact add3 v
  go_enter Try.func8, Try.ntmps8
  go_upto_region 3 with (fail)
  refine wp_forget (fun v => Below w.heap.size w v ∧ Blk v (w.heap.size) #[.int .u8 h.tos, .int .u16 h.id, .int .u8 h.fl, .int .u16 0, .int .u8 h.ttl, .int .u8 17, .int .u32 h.src, .int .u32 h.dst, SV h.o] 70 ∧ Blk v (w.heap.size + 1) #[.int .u8 p0, .int .u8 p1, .int .u8 p2, .int .u8 p3] 71) ⟨by (repeat' (first | (with_reducible (first | exact Below.refl _ _ | assumption | refine below_drewN ?_ _ | refine Below.drew ?_ | refine Below.alloc ?_ ?_ _ | refine Below.setCell ?_ ?_ _)) | go_size)), by (repeat' (first | (with_reducible (first | assumption | exact Blk.alloc_new _ _ _ (by first | rfl | (simp; done) | omega) | apply Blk.drewN | apply Blk.drew | apply Blk.alloc_old | apply Blk.set_same | apply Blk.set_other)) | (show (_ : Nat) ≠ _; first | omega | (simp; done) | (simp; omega)) | ((simp only [List.setIfInBounds_toArray, List.set_cons_succ, List.set_cons_zero]); (with_reducible exact rfl)) | (with_reducible exact rfl) | (show (_ : Array Value) = _; exact rfl))), by (repeat' (first | (with_reducible (first | assumption | exact Blk.alloc_new _ _ _ (by first | rfl | (simp; done) | omega) | apply Blk.drewN | apply Blk.drew | apply Blk.alloc_old | apply Blk.set_same | apply Blk.set_other)) | (show (_ : Nat) ≠ _; first | omega | (simp; done) | (simp; omega)) | ((simp only [List.setIfInBounds_toArray, List.set_cons_succ, List.set_cons_zero]); (with_reducible exact rfl)) | (with_reducible exact rfl) | (show (_ : Array Value) = _; exact rfl)))⟩ ?_
  rintro v1 ⟨gv1, Av1, Bv1⟩
  have qA1 := blk_calm Av1
  have qB1 := blk_calm Bv1
  refine wp_region_quiet_below (by kernel_rfl) (by kernel_rfl) ?_
  repeat (go_big_quiet_step ((first
      | (go_at_call 31; (with_reducible exact Calls.regrown_of (KE1.out _))))))
  refine wpQuiet_nil ?_
  intro _ hw'
  obtain ⟨pq, hw''⟩ := hw'
  subst hw''
  have hb1 := below_regrown v1 pq.d pq.os
  generalize Sort.grow (redrawn v1 pq.d) pq.os = w1 at *
  have A1 : Blk w1 (w.heap.size) #[.int .u8 h.tos, .int .u16 h.id, .int .u8 h.fl, .int .u16 0, .int .u8 h.ttl, .int .u8 17, .int .u32 h.src, .int .u32 h.dst, SV h.o] 70 := Blk.below Av1 hb1 Av1.size
  have B1 : Blk w1 (w.heap.size + 1) #[.int .u8 p0, .int .u8 p1, .int .u8 p2, .int .u8 p3] 71 := Blk.below Bv1 hb1 Bv1.size
  have g1 : Below w.heap.size w w1 := gv1.trans (hb1.mono gv1.size)
  have hz1 : w.heap.size ≤ w1.heap.size := g1.size
  clear hb1 gv1 Av1 qA1 Bv1 qB1
  replace cA := A1.cell
  replace fA := A1.frozen
  replace zA := A1.size
  replace cB := B1.cell
  replace fB := B1.frozen
  replace zB := B1.size
  go_wp2_with fail
  refine (KE2.out _).mono ?_
  rintro e w2 ⟨rfl, hb2⟩
  have A2 : Blk w2 (w.heap.size) #[.int .u8 h.tos, .int .u16 h.id, .int .u8 h.fl, .int .u16 0, .int .u8 h.ttl, .int .u8 17, .int .u32 h.dst, .int .u32 h.src, SV h.o] 70 := Blk.below (by (repeat' (first | (with_reducible (first | assumption | exact Blk.alloc_new _ _ _ (by first | rfl | (simp; done) | omega) | apply Blk.drewN | apply Blk.drew | apply Blk.alloc_old | apply Blk.set_same | apply Blk.set_other)) | (show (_ : Nat) ≠ _; first | omega | (simp; done) | (simp; omega)) | ((simp only [List.setIfInBounds_toArray, List.set_cons_succ, List.set_cons_zero]); (with_reducible exact rfl)) | (with_reducible exact rfl) | (show (_ : Array Value) = _; exact rfl)))) hb2 (by first | (simp; done) | omega | (simp; omega))
  have B2 : Blk w2 (w.heap.size + 1) #[.int .u8 p0, .int .u8 p1, .int .u8 p2, .int .u8 p3] 71 := Blk.below (by (repeat' (first | (with_reducible (first | assumption | exact Blk.alloc_new _ _ _ (by first | rfl | (simp; done) | omega) | apply Blk.drewN | apply Blk.drew | apply Blk.alloc_old | apply Blk.set_same | apply Blk.set_other)) | (show (_ : Nat) ≠ _; first | omega | (simp; done) | (simp; omega)) | ((simp only [List.setIfInBounds_toArray, List.set_cons_succ, List.set_cons_zero]); (with_reducible exact rfl)) | (with_reducible exact rfl) | (show (_ : Array Value) = _; exact rfl)))) hb2 (by first | (simp; done) | omega | (simp; omega))
  have g2 : Below w.heap.size w w2 := by refine Below.trans ?_ (hb2.mono ?_) <;> (repeat' (first | (with_reducible (first | exact Below.refl _ _ | assumption | refine below_drewN ?_ _ | refine Below.drew ?_ | refine Below.alloc ?_ ?_ _ | refine Below.setCell ?_ ?_ _)) | go_size))
  have hz2 := hb2.size
  (try simp at hz2)
  clear hb2
  replace cA := A2.cell
  replace fA := A2.frozen
  replace zA := A2.size
  replace cB := B2.cell
  replace fB := B2.frozen
  replace zB := B2.size
  go_wp2_with fail
  refine (KS.out _).mono ?_
  rintro e w3 ⟨rfl, hb3⟩
  have g3 : Below w.heap.size w w3 := by refine Below.trans ?_ (hb3.mono ?_) <;> (repeat' (first | (with_reducible (first | exact Below.refl _ _ | assumption | refine below_drewN ?_ _ | refine Below.drew ?_ | refine Below.alloc ?_ ?_ _ | refine Below.setCell ?_ ?_ _)) | go_size))
  have hz3 := hb3.size
  (try simp at hz3)
  clear hb3
  go_wp2_with fail
  refine (KT.out _).mono ?_
  rintro e w4 ⟨rfl, hb4⟩
  have Q4 : Blk w4 (w3.heap.size) #[.int .u16 a0, .int .u16 a1, .int .u16 a2, .int .u16 a3] 48 := Blk.below (by (repeat' (first | (with_reducible (first | assumption | exact Blk.alloc_new _ _ _ (by first | rfl | (simp; done) | omega) | apply Blk.drewN | apply Blk.drew | apply Blk.alloc_old | apply Blk.set_same | apply Blk.set_other)) | (show (_ : Nat) ≠ _; first | omega | (simp; done) | (simp; omega)) | ((simp only [List.setIfInBounds_toArray, List.set_cons_succ, List.set_cons_zero]); (with_reducible exact rfl)) | (with_reducible exact rfl) | (show (_ : Array Value) = _; exact rfl)))) hb4 (by first | (simp; done) | omega | (simp; omega))
  have g4 : Below w.heap.size w w4 := by refine Below.trans ?_ (hb4.mono ?_) <;> (repeat' (first | (with_reducible (first | exact Below.refl _ _ | assumption | refine below_drewN ?_ _ | refine Below.drew ?_ | refine Below.alloc ?_ ?_ _ | refine Below.setCell ?_ ?_ _)) | go_size))
  have hz4 := hb4.size
  (try simp at hz4)
  clear hb4
  replace cQ := Q4.cell
  replace fQ := Q4.frozen
  replace zQ := Q4.size
  go_wp2_with fail
  refine (names_true _).mono ?_
  rintro e w5 ⟨rfl, hb5⟩
  have g5 : Below w.heap.size w w5 := by refine Below.trans ?_ (hb5.mono ?_) <;> (repeat' (first | (with_reducible (first | exact Below.refl _ _ | assumption | refine below_drewN ?_ _ | refine Below.drew ?_ | refine Below.alloc ?_ ?_ _ | refine Below.setCell ?_ ?_ _)) | go_size))
  have hz5 := hb5.size
  (try simp at hz5)
  clear hb5
  go_wp2
  go_ret
  exact ⟨rfl, by (repeat' (first | (with_reducible (first | exact Below.refl _ _ | assumption | refine below_drewN ?_ _ | refine Below.drew ?_ | refine Below.alloc ?_ ?_ _ | refine Below.setCell ?_ ?_ _)) | go_size))⟩
def HD.udp (h : HD) : HD := ⟨h.tos, h.id, h.fl, 0, h.ttl, 17, h.src, h.dst, h.o⟩
def HD.back (h : HD) : HD := ⟨h.tos, h.id, h.fl, 0, h.ttl, 17, h.dst, h.src, h.o⟩
theorem key_udp (h : HD) (r : List Int) (p0 p1 p2 p3 : Int) : keyL h.udp.filled ([p0, p1, p2, p3] ++ r) = ⟨17 * 256 + h.tos / 4, p0 * 256 + p1, p2 * 256 + p3, xN (xN h.src h.dst / 65536) (xN h.src h.dst % 65536)⟩ := by
  have hp : portB h.udp.filled ([p0, p1, p2, p3] ++ r) := ⟨.inr rfl, rfl, by simp⟩
  unfold keyL; rw [if_pos hp, if_pos hp]; rfl
theorem key_back (h : HD) (r : List Int) (p0 p1 p2 p3 : Int) : keyL h.back.filled ([p2, p3, p0, p1] ++ r) = ⟨17 * 256 + h.tos / 4, p2 * 256 + p3, p0 * 256 + p1, xN (xN h.src h.dst / 65536) (xN h.src h.dst % 65536)⟩ := by
  have hp : portB h.back.filled ([p2, p3, p0, p1] ++ r) := ⟨.inr rfl, rfl, by simp⟩
  unfold keyL; rw [if_pos hp, if_pos hp, xN_comm h.src h.dst]; rfl
theorem enc_byt {h : HD} {b : List Int} (ok : h.ok) (hb : Byt b) (hw : wrongR h b.length = 0) : Byt (encR h b) := by
  have hby := front_byt ok hw
  have hck := ck_rng ok hw
  intro x hx
  unfold encR at hx
  rcases List.mem_append.1 hx with hx | hx
  · exact hby x (List.mem_append.2 (.inl hx))
  rcases List.mem_append.1 hx with hx | hx
  · simp at hx; rcases hx with rfl | rfl <;> omega
  rcases List.mem_append.1 hx with hx | hx
  · exact hby x (List.mem_append.2 (.inr (List.mem_append.2 (.inl hx))))
  rcases List.mem_append.1 hx with hx | hx
  · exact hby x (List.mem_append.2 (.inr (List.mem_append.2 (.inr hx))))
  · exact hb x hx
theorem FlowBack_walk (h : HD) (ok : h.ok) (p0 : Int) (g0 : 0 ≤ p0 ∧ p0 ≤ 255) (p1 : Int) (g1 : 0 ≤ p1 ∧ p1 ≤ 255) (p2 : Int) (g2 : 0 ≤ p2 ∧ p2 ≤ 255) (p3 : Int) (g3 : 0 ≤ p3 ∧ p3 ≤ 255) (a : ByteArray) (w : World) (hz1 : h.o.length ≤ 4611686018427387904) (hz2 : a.size ≤ 140737488351232) :
    Calls Try.prog 8 #[hdv h, .agg #[.int .u8 p0, .int .u8 p1, .int .u8 p2, .int .u8 p3], .string a] w fun e w' => e = .returned (.bool true) ∧ Below w.heap.size w w' := by
  rw [numsOf_sv a]
  have hl := numsOf_byt a
  have hb : (numsOf a).length ≤ 140737488351232 := by rw [numsOf_len]; exact hz2
  generalize numsOf a = r at hl hb ⊢
  have okk := ok
  obtain ⟨o1, o2, o3, o4, o5, o6, o7, o8, o9⟩ := ok
  have ok1 : h.udp.ok := ⟨o1, o2, o3, by show (0 : Int) ≤ 0 ∧ (0 : Int) ≤ 65535; omega, o5, by show (0 : Int) ≤ 17 ∧ (17 : Int) ≤ 255; omega, o7, o8, o9⟩
  have ok2 : h.back.ok := ⟨o1, o2, o3, by show (0 : Int) ≤ 0 ∧ (0 : Int) ≤ 65535; omega, o5, by show (0 : Int) ≤ 17 ∧ (17 : Int) ≤ 255; omega, o8, o7, o9⟩
  have l1 : ([p0, p1, p2, p3] ++ r).length = r.length + 4 := by simp
  have l2 : ([p2, p3, p0, p1] ++ r).length = r.length + 4 := by simp
  have b1 : Byt ([p0, p1, p2, p3] ++ r) := fun x hx => by
    rcases List.mem_append.1 hx with hx | hx
    · simp at hx; rcases hx with rfl | rfl | rfl | rfl <;> assumption
    · exact hl x hx
  have b2 : Byt ([p2, p3, p0, p1] ++ r) := fun x hx => by
    rcases List.mem_append.1 hx with hx | hx
    · simp at hx; rcases hx with rfl | rfl | rfl | rfl <;> assumption
    · exact hl x hx
  have hww : wrongR h.back (r.length + 4) = wrongR h.udp (r.length + 4) := rfl
  by_cases hw : wrongR h.udp (r.length + 4) = 0
  · have hw1 : wrongR h.udp ([p0, p1, p2, p3] ++ r).length = 0 := by rw [l1]; exact hw
    have hw2 : wrongR h.back ([p2, p3, p0, p1] ++ r).length = 0 := by rw [l2, hww]; exact hw
    obtain ⟨e1, e2, e3⟩ := dec_enc ok1 hw1
    obtain ⟨f1, f2, f3⟩ := dec_enc ok2 hw2
    have n1 := (wrong_zero hw1).2.2.2
    have n2 := (wrong_zero hw2).2.2.2
    have c1 := (full_forty (wrong_zero hw1).2.2.1).1
    have c2 := (full_forty (wrong_zero hw2).2.2.1).1
    refine back_ok h r (encR h.udp ([p0, p1, p2, p3] ++ r)) (encR h.back ([p2, p3, p0, p1] ++ r)) p0 p1 p2 p3 0 w g0 g1 g2 g3 (by omega) (17 * 256 + h.tos / 4) (p0 * 256 + p1) (p2 * 256 + p3) (xN (xN h.src h.dst / 65536) (xN h.src h.dst % 65536)) (hide fun v => ?_) (hide fun v => ?_) (hide fun v => ?_) (hide fun v => ?_)
    · have k := ipEncode h.udp ([p0, p1, p2, p3] ++ r) v ok1 hz1 (by omega); rw [hw1, if_pos rfl] at k; exact k
    · have k := ipEncode h.back ([p2, p3, p0, p1] ++ r) v ok2 hz1 (by omega); rw [hw2, if_pos rfl] at k; exact k
    · have k := flowKey (encR h.udp ([p0, p1, p2, p3] ++ r)) v (enc_byt ok1 b1 hw1) (by rw [enc_len]; omega)
      unfold fkV at k; rw [e1, if_pos rfl, e2, e3, key_udp] at k; exact k
    · have k := flowKey (encR h.back ([p2, p3, p0, p1] ++ r)) v (enc_byt ok2 b2 hw2) (by rw [enc_len]; omega)
      unfold fkV at k; rw [f1, if_pos rfl, f2, f3, key_back] at k; exact k
  · refine back_bad h r [] [] p0 p1 p2 p3 (wrongR h.udp (r.length + 4)) w g0 g1 g2 g3 (by omega) hw (hide fun v => ?_) (hide fun v => ?_)
    · have k := ipEncode h.udp ([p0, p1, p2, p3] ++ r) v ok1 hz1 (by omega); rw [l1, if_neg hw] at k; exact k
    · have k := ipEncode h.back ([p2, p3, p0, p1] ++ r) v ok2 hz1 (by omega); rw [l2, hww, if_neg hw] at k; exact k
namespace flowBackDone
theorem own : ownKnob Try.prog.godebug = none := by kernel_rfl
theorem laidOut : laidOutB Try.prog = true := by kernel_rfl
set_option maxRecDepth 100000 in
theorem lifted (os : Os) (started : os.Started) (H : Type) (enc : TypeId × Value → H) :
    ReturnsInHanded {} Try.checked os 8 .any (Rows.flowBackSpec.pre6 enc Try.prog Try.f8 Rows.flowBackRow.domain false) (Rows.flowBackSpec.post enc Try.prog Try.f8 false true false false) := by
  refine returnsInHanded_of_change_sized (C := Try.checked) own started (by kernel_rfl) Try.func8
    (ChangeSpec.witness6 (enc := enc) (C := Try.checked) false ⟨#[], #[.agg #[.int .u8 0, .int .u16 0, .int .u8 0, .int .u16 0, .int .u8 0, .int .u8 0, .int .u32 0, .int .u32 0, .string ⟨#[]⟩], .agg #[.int .u8 0, .int .u8 0, .int .u8 0, .int .u8 0], .string ⟨#[]⟩], []⟩ 8 (by kernel_rfl) (by kernel_rfl) (by kernel_rfl) (by kernel_rfl)) ?_
  intro W base args ds gs before hval0 hW hcnd hwt _
  have hval : ∀ (j : Nat) t v, Try.f8.params[j]? = some t → args[j]? = some v → Value.okWide Try.prog W .any base t v := hval0
  have hW' := hW
  obtain ⟨p, q, hA0, hV, rfl, hfz, hnd⟩ := hW
  have hA : DataW.TrodAll enc Try.prog W 0 (fun _ => true) true Try.f8.params.toList args.toList ds p := hA0
  rw [Try.params8] at hA hval
  obtain ⟨v0, vs0, d0, ds0, p0, q0, hargs, rfl, rfl, h0, r0⟩ := trodAll_cons hA
  obtain ⟨v1, vs1, d1, ds1, p1, q1, rfl, rfl, rfl, h1, r1⟩ := trodAll_cons r0
  obtain ⟨v2, vs2, d2, ds2, p2, q2, rfl, rfl, rfl, h2, r2⟩ := trodAll_cons r1
  obtain ⟨rfl, rfl, rfl⟩ := trodAll_nil r2
  obtain rfl : args = #[v0, v1, v2] := by cases args; simp_all
  obtain ⟨rfl, rfl⟩ := trodVars_none hV
  have k0 := h0
  have lt0 : ∀ x ∈ p0, x.block < W.heap.size := by obtain ⟨m, hm⟩ := k0; exact DataW.trod_lt m _ _ _ hm
  obtain ⟨hh0, hs0, rfl, hok0, ho0, hw0⟩ := open_ip44h (hval 0 70 v0 rfl rfl) h0
  have k1 := h1
  have lt1 : ∀ x ∈ p1, x.block < W.heap.size := by obtain ⟨m, hm⟩ := k1; exact DataW.trod_lt m _ _ _ hm
  obtain ⟨a1_0, a1_1, a1_2, a1_3, rfl, b1_0, b1_1, b1_2, b1_3⟩ := open_ports45 (hval 1 71 v1 rfl rfl) h1
  obtain ⟨a2, rfl, rfl, rfl, wf2⟩ := open_string Try.underlying9 (hval 2 9 v2 rfl rfl) h2
  clear hA0 hval0
  have hzz : hs0.size ≤ 140737488351232 ∧ a2.size ≤ 140737488351232 := by have hw' : DataW.weights Try.checked.prog 70 d0 = [hs0.size] := hw0; simp [DataW.weightsEach, DataW.weights, Try.params8, reachBytes] at hwt; exact ⟨of_decide_eq_true (hwt.1 _ (by rw [hw']; simp)), of_decide_eq_true hwt.2.2⟩
  refine (FlowBack_walk hh0 hok0 a1_0 b1_0 a1_1 b1_1 a1_2 b1_2 a1_3 b1_3 a2 W (by rw [ho0, numsOf_len]; omega) (by omega)).mono fun e W' ⟨he, bel⟩ => ?_
  subst he
  exact ⟨_, rfl, _, _, _, [], _, [], hW', trodAll_mk1 (shut_bool Try.underlying4 _), (trodAll_cons_mk (Below.trod laidOut (by kernel_rfl) (of_decide_eq_true (by kernel_rfl)) k0 bel lt0) (trodAll_cons_mk (Below.trod laidOut (by kernel_rfl) (of_decide_eq_true (by kernel_rfl)) k1 bel lt1) (trodAll_cons_mk (shut_string Try.underlying9 wf2) trodAll_mk0))), rfl, bel.frame _, fun h => by cases h⟩
theorem over : Rows.flowBackRow.holds Try.pinned (OpenSpec.ofChange Rows.flowBackSpec) :=
  OpenClaim.holds_of_wide 8 Try.f8 rfl rfl rfl rfl rfl rfl rfl ⟨rfl, rfl, rfl, rfl, rfl⟩ rfl rfl rfl rfl rfl (by kernel_rfl) Try.func8 (by kernel_rfl)
    (of_decide_eq_true (by kernel_rfl)) (by unfold Func.isWrapper; first | (rw [if_pos (by decide +kernel)]; kernel_rfl) | (rw [if_neg (by decide +kernel)]; exact ⟨rfl, rfl⟩))
    (fun os started H enc _ => lifted os started H enc)
end flowBackDone
theorem FlowBack_holds : Rows.FlowBackSaid := flowBackDone.over

end Go.Proofs.Ytljpiofpfankoaa
