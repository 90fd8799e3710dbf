/-
  'floodgatelaw44.Ipv4Encodes' returns true for every input. Conditions: none.
-/
import Derived.Test.YtldahcfggeebgaaIpS
import Derived.Test.YtldahcfggeebgaaIpT
namespace Go.Proofs.Ytldahcfggeebgaa
open Go.RowKit Go.Sort Go.ChangeShapes Go.WideShapes Go.ChangeAt
open Go.ChangeMaps (open_string shut_string)
set_option linter.unusedVariables false
set_option linter.unusedSimpArgs false
theorem ip44hlist9 {α : Type} {l : List α} (h : l.length = 9) : ∃ a0 a1 a2 a3 a4 a5 a6 a7 a8, l = [a0, a1, a2, a3, a4, a5, a6, a7, a8] := by
  match l, h with
  | [a0, a1, a2, a3, a4, a5, a6, a7, a8], _ => exact ⟨a0, a1, a2, a3, a4, a5, a6, a7, a8, rfl⟩
theorem cells_ip44h {H : Type} {w : World} {base : Nat} {spare : Nat → Bool} {held : Bool} {enc : TypeId × Value → H} {fuel : Nat} {c0 c1 c2 c3 c4 c5 c6 c7 c8 : Value} {x : DataW H × List MemPlace} (hf : DataW.trod enc Try.prog w base spare held fuel 61 [c0, c1, c2, c3, c4, c5, c6, c7, c8] = some x) :
    ∃ (x0 x1 x2 x3 x4 x5 x6 x7 : Int) (s : ByteArray), [c0, c1, c2, c3, c4, c5, c6, c7, c8] = [.int .u8 x0, .int .u16 x1, .int .u8 x2, .int .u16 x3, .int .u8 x4, .int .u8 x5, .int .u32 x6, .int .u32 x7, .string s] ∧ (0 ≤ x0 ∧ x0 ≤ 255) ∧ (0 ≤ x1 ∧ x1 ≤ 65535) ∧ (0 ≤ x2 ∧ x2 ≤ 255) ∧ (0 ≤ x3 ∧ x3 ≤ 65535) ∧ (0 ≤ x4 ∧ x4 ≤ 255) ∧ (0 ≤ x5 ∧ x5 ≤ 255) ∧ (0 ≤ x6 ∧ x6 ≤ 4294967295) ∧ (0 ≤ x7 ∧ x7 ≤ 4294967295) ∧ DataW.weights Try.prog 61 x.1 = [s.size] := by
  have k0 : Try.prog.cellsOf 61 = 9 := by kernel_rfl
  have k1 : Try.prog.cellsOf 5 = 1 := by kernel_rfl
  have k2 : Try.prog.cellsOf 54 = 1 := by kernel_rfl
  have k3 : Try.prog.cellsOf 59 = 1 := by kernel_rfl
  have k4 : Try.prog.cellsOf 9 = 1 := by kernel_rfl
  obtain ⟨ys, m, _, hx1, _, hl, hx⟩ := DataW.trod_struct Try.underlying61 hf
  obtain ⟨y0, y1, y2, y3, y4, y5, y6, y7, y8, rfl⟩ := ip44hlist9 hl
  have q0 := hx 0 _ rfl
  have q1 := hx 1 _ rfl
  have q2 := hx 2 _ rfl
  have q3 := hx 3 _ rfl
  have q4 := hx 4 _ rfl
  have q5 := hx 5 _ rfl
  have q6 := hx 6 _ rfl
  have q7 := hx 7 _ rfl
  have q8 := hx 8 _ rfl
  simp [k1, k2, k3, k4] at q0 q1 q2 q3 q4 q5 q6 q7 q8
  obtain ⟨x0, e0, d0, w0⟩ := DataW.trod_int Try.underlying5 q0
  obtain ⟨x1, e1, d1, w1⟩ := DataW.trod_int Try.underlying54 q1
  obtain ⟨x2, e2, d2, w2⟩ := DataW.trod_int Try.underlying5 q2
  obtain ⟨x3, e3, d3, w3⟩ := DataW.trod_int Try.underlying54 q3
  obtain ⟨x4, e4, d4, w4⟩ := DataW.trod_int Try.underlying5 q4
  obtain ⟨x5, e5, d5, w5⟩ := DataW.trod_int Try.underlying5 q5
  obtain ⟨x6, e6, d6, w6⟩ := DataW.trod_int Try.underlying59 q6
  obtain ⟨x7, e7, d7, w7⟩ := DataW.trod_int Try.underlying59 q7
  obtain ⟨s, e8, d8, w8⟩ := DataW.trod_string Try.underlying9 q8
  simp at e0 e1 e2 e3 e4 e5 e6 e7 e8
  subst e0 e1 e2 e3 e4 e5 e6 e7 e8
  refine ⟨x0, x1, x2, x3, x4, x5, x6, x7, s, rfl, bounds_u8 w0, bounds_u16 w1, bounds_u8 w2, bounds_u16 w3, bounds_u8 w4, bounds_u8 w5, bounds_u32 w6, bounds_u32 w7, ?_⟩
  rw [hx1]; simp [d0, d1, d2, d3, d4, d5, d6, d7, d8, DataW.weights, DataW.weightsEach, Try.underlying61]
set_option maxRecDepth 100000 in
theorem open_ip44h {H : Type} {w : World} {base : Nat} {spare : Nat → Bool} {held : Bool} {enc : TypeId × Value → H} {r : Reach} {b0 : Nat} {v : Value} {d : DataW H} {p : List MemPlace} (hv : Value.okWide Try.prog w r b0 61 v) (h : DataW.Trod enc Try.prog w base spare held 61 v d p) :
    ∃ (h : HD) (s : ByteArray), v = hdv h ∧ h.ok ∧ h.o = numsOf s ∧ DataW.weights Try.prog 61 d = [s.size] := by
  obtain ⟨cs, rfl, hsz⟩ := okWide_struct Try.underlying61 hv
  obtain ⟨l⟩ := cs
  obtain ⟨c0, c1, c2, c3, c4, c5, c6, c7, c8, rfl⟩ := ip44hlist9 (l := l) (hsz.trans (show Try.prog.cellsOf 61 = 9 by kernel_rfl))
  obtain ⟨fuel, hf⟩ := h
  obtain ⟨x0, x1, x2, x3, x4, x5, x6, x7, s, e, b0, b1, b2, b3, b4, b5, b6, b7, hw⟩ := cells_ip44h (x := (d, p)) (show DataW.trod enc Try.prog w base spare held fuel 61 [c0, c1, c2, c3, c4, c5, c6, c7, c8] = some (d, p) by simpa [Value.cells] using hf)
  simp at e
  obtain ⟨rfl, rfl, rfl, rfl, rfl, rfl, rfl, rfl, rfl⟩ := e
  refine ⟨⟨x0, x1, x2, x3, x4, x5, x6, x7, numsOf s⟩, s, ?_, ⟨b0, b1, b2, b3, b4, b5, b6, b7, numsOf_byt s⟩, rfl, hw⟩
  rw [numsOf_sv s]
set_option maxRecDepth 100000 in
set_option maxHeartbeats 4000000 in
theorem encodes_bad (h : HD) (b : List Int) (x : Int) (w : World) (hx : 1 ≤ x ∧ x ≤ 2)
    (KE : Hid (∀ v, Calls Try.prog 26 #[.agg #[.int .u8 h.tos, .int .u16 h.id, .int .u8 h.fl, .int .u16 h.off, .int .u8 h.ttl, .int .u8 h.pr, .int .u32 h.src, .int .u32 h.dst, SV h.o], SV b] v fun e w' => e = .returned (.tuple #[.string ⟨#[]⟩, .int .i64 x]) ∧ Below v.heap.size v w'))
    (KW : Hid (∀ v, Calls Try.prog 27 #[.agg #[.int .u8 h.tos, .int .u16 h.id, .int .u8 h.fl, .int .u16 h.off, .int .u8 h.ttl, .int .u8 h.pr, .int .u32 h.src, .int .u32 h.dst, SV h.o], SV b] v fun e w' => e = .returned (.int .i64 x) ∧ Below v.heap.size v w')) :
    Calls Try.prog 9 #[.agg #[.int .u8 h.tos, .int .u16 h.id, .int .u8 h.fl, .int .u16 h.off, .int .u8 h.ttl, .int .u8 h.pr, .int .u32 h.src, .int .u32 h.dst, SV h.o], SV b] w fun e w' => e = .returned (.bool true) ∧ Below w.heap.size w w' := by
  have hx0 : ¬ x = 0 := by omega
  have hxb : (x != 0) = true := bne_iff_ne.2 hx0
  have q1 : ∀ v, (binOp .eql 9 (.string ⟨#[]⟩) (.string ⟨#[]⟩)).run Try.prog v = .ok (.bool true) v := strq _
  go_enter Try.func9, Try.ntmps9
  go_wp2_with fail
  refine (KE.out _).mono ?_
  rintro e w1 ⟨rfl, hb1⟩
  have A1 : Blk w1 (w.heap.size) #[.int .u8 h.tos, .int .u16 h.id, .int .u8 h.fl, .int .u16 h.off, .int .u8 h.ttl, .int .u8 h.pr, .int .u32 h.src, .int .u32 h.dst, SV h.o] 61 := Blk.below (by (repeat' (first | (with_reducible (first | assumption | exact Blk.alloc_new _ _ _ (by first | rfl | (simp; done) | omega) | apply Blk.drewN | apply Blk.drew | apply Blk.alloc_old | apply Blk.set_same | apply Blk.set_other)) | (show (_ : Nat) ≠ _; first | omega | (simp; done) | (simp; omega)) | ((simp only [List.setIfInBounds_toArray, List.set_cons_succ, List.set_cons_zero]); (with_reducible exact rfl)) | (with_reducible exact rfl) | (show (_ : Array Value) = _; exact rfl)))) hb1 (by first | (simp; done) | omega | (simp; omega))
  have g1 : Below w.heap.size w w1 := by refine Below.trans ?_ (hb1.mono ?_) <;> (repeat' (first | (with_reducible (first | exact Below.refl _ _ | assumption | refine below_drewN ?_ _ | refine Below.drew ?_ | refine Below.alloc ?_ ?_ _ | refine Below.setCell ?_ ?_ _)) | go_size))
  have hz1 := hb1.size
  (try simp at hz1)
  clear hb1
  replace cA := A1.cell
  replace fA := A1.frozen
  replace zA := A1.size
  go_wp2_with fail
  refine (ip44ref h _).mono ?_
  rintro e w2 ⟨rfl, hb2⟩
  have A2 : Blk w2 (w.heap.size) #[.int .u8 h.tos, .int .u16 h.id, .int .u8 h.fl, .int .u16 h.off, .int .u8 h.ttl, .int .u8 h.pr, .int .u32 h.src, .int .u32 h.dst, SV h.o] 61 := Blk.below (by (repeat' (first | (with_reducible (first | assumption | exact Blk.alloc_new _ _ _ (by first | rfl | (simp; done) | omega) | apply Blk.drewN | apply Blk.drew | apply Blk.alloc_old | apply Blk.set_same | apply Blk.set_other)) | (show (_ : Nat) ≠ _; first | omega | (simp; done) | (simp; omega)) | ((simp only [List.setIfInBounds_toArray, List.set_cons_succ, List.set_cons_zero]); (with_reducible exact rfl)) | (with_reducible exact rfl) | (show (_ : Array Value) = _; exact rfl)))) hb2 (by first | (simp; done) | omega | (simp; omega))
  have g2 : Below w.heap.size w w2 := by refine Below.trans ?_ (hb2.mono ?_) <;> (repeat' (first | (with_reducible (first | exact Below.refl _ _ | assumption | refine below_drewN ?_ _ | refine Below.drew ?_ | refine Below.alloc ?_ ?_ _ | refine Below.setCell ?_ ?_ _)) | go_size))
  have hz2 := hb2.size
  (try simp at hz2)
  clear hb2
  replace cA := A2.cell
  replace fA := A2.frozen
  replace zA := A2.size
  go_wp2_with fail
  refine (KW.out _).mono ?_
  rintro e w3 ⟨rfl, hb3⟩
  have A3 : Blk w3 (w.heap.size) #[.int .u8 h.tos, .int .u16 h.id, .int .u8 h.fl, .int .u16 h.off, .int .u8 h.ttl, .int .u8 h.pr, .int .u32 h.src, .int .u32 h.dst, SV h.o] 61 := Blk.below (by (repeat' (first | (with_reducible (first | assumption | exact Blk.alloc_new _ _ _ (by first | rfl | (simp; done) | omega) | apply Blk.drewN | apply Blk.drew | apply Blk.alloc_old | apply Blk.set_same | apply Blk.set_other)) | (show (_ : Nat) ≠ _; first | omega | (simp; done) | (simp; omega)) | ((simp only [List.setIfInBounds_toArray, List.set_cons_succ, List.set_cons_zero]); (with_reducible exact rfl)) | (with_reducible exact rfl) | (show (_ : Array Value) = _; exact rfl)))) hb3 (by first | (simp; done) | omega | (simp; omega))
  have g3 : Below w.heap.size w w3 := by refine Below.trans ?_ (hb3.mono ?_) <;> (repeat' (first | (with_reducible (first | exact Below.refl _ _ | assumption | refine below_drewN ?_ _ | refine Below.drew ?_ | refine Below.alloc ?_ ?_ _ | refine Below.setCell ?_ ?_ _)) | go_size))
  have hz3 := hb3.size
  (try simp at hz3)
  clear hb3
  replace cA := A3.cell
  replace fA := A3.frozen
  replace zA := A3.size
  go_wp2_with fail
  refine (four_true _).mono ?_
  rintro e w4 ⟨rfl, hb4⟩
  have g4 : Below w.heap.size w w4 := by refine Below.trans ?_ (hb4.mono ?_) <;> (repeat' (first | (with_reducible (first | exact Below.refl _ _ | assumption | refine below_drewN ?_ _ | refine Below.drew ?_ | refine Below.alloc ?_ ?_ _ | refine Below.setCell ?_ ?_ _)) | go_size))
  have hz4 := hb4.size
  (try simp at hz4)
  clear hb4
  go_wp2
  go_ret
  exact ⟨rfl, by (repeat' (first | (with_reducible (first | exact Below.refl _ _ | assumption | refine below_drewN ?_ _ | refine Below.drew ?_ | refine Below.alloc ?_ ?_ _ | refine Below.setCell ?_ ?_ _)) | go_size))⟩
set_option maxRecDepth 100000 in
set_option maxHeartbeats 8000000 in
theorem encodes_ok (h : HD) (F b s : List Int) (w : World)
    (KE : Hid (∀ v, Calls Try.prog 26 #[.agg #[.int .u8 h.tos, .int .u16 h.id, .int .u8 h.fl, .int .u16 h.off, .int .u8 h.ttl, .int .u8 h.pr, .int .u32 h.src, .int .u32 h.dst, SV h.o], SV b] v fun e w' => e = .returned (.tuple #[SV s, .int .i64 0]) ∧ Below v.heap.size v w'))
    (KW : Hid (∀ v, Calls Try.prog 27 #[.agg #[.int .u8 h.tos, .int .u16 h.id, .int .u8 h.fl, .int .u16 h.off, .int .u8 h.ttl, .int .u8 h.pr, .int .u32 h.src, .int .u32 h.dst, SV h.o], SV b] v fun e w' => e = .returned (.int .i64 0) ∧ Below v.heap.size v w'))
    (KD : Hid (∀ v, Calls Try.prog 29 #[SV s] v fun e w' => e = .returned (.tuple #[.agg #[.int .u8 h.tos, .int .u16 h.id, .int .u8 h.fl, .int .u16 h.off, .int .u8 h.ttl, .int .u8 h.pr, .int .u32 h.src, .int .u32 h.dst, SV F], SV b, .int .i64 0]) ∧ Below v.heap.size v w'))
    (KF : Hid (∀ v, Calls Try.prog 30 #[SV h.o] v fun e w' => e = .returned (SV F) ∧ Below v.heap.size v w'))
    (KR : Hid (∀ v, Calls Try.prog 31 #[.agg #[.int .u8 h.tos, .int .u16 h.id, .int .u8 h.fl, .int .u16 h.off, .int .u8 h.ttl, .int .u8 h.pr, .int .u32 h.src, .int .u32 h.dst, SV F], SV b] v fun e w' => e = .returned (SV s) ∧ Below v.heap.size v w')) :
    Calls Try.prog 9 #[.agg #[.int .u8 h.tos, .int .u16 h.id, .int .u8 h.fl, .int .u16 h.off, .int .u8 h.ttl, .int .u8 h.pr, .int .u32 h.src, .int .u32 h.dst, SV h.o], SV b] w fun e w' => e = .returned (.bool true) ∧ Below w.heap.size w w' := by
  have q1 : ∀ v, (binOp .eql 9 (SV s) (SV s)).run Try.prog v = .ok (.bool true) v := strq _
  have q2 : ∀ v, (binOp .eql 9 (SV b) (SV b)).run Try.prog v = .ok (.bool true) v := strq _
  have q3 : ∀ v, (binOp .eql 61 (.agg #[.int .u8 h.tos, .int .u16 h.id, .int .u8 h.fl, .int .u16 h.off, .int .u8 h.ttl, .int .u8 h.pr, .int .u32 h.src, .int .u32 h.dst, SV F]) (.agg #[.int .u8 h.tos, .int .u16 h.id, .int .u8 h.fl, .int .u16 h.off, .int .u8 h.ttl, .int .u8 h.pr, .int .u32 h.src, .int .u32 h.dst, SV F])).run Try.prog v = .ok (.bool true) v := hdeq ⟨h.tos, h.id, h.fl, h.off, h.ttl, h.pr, h.src, h.dst, F⟩
  go_enter Try.func9, Try.ntmps9
  go_wp2_with fail
  refine (KE.out _).mono ?_
  rintro e w1 ⟨rfl, hb1⟩
  have A1 : Blk w1 (w.heap.size) #[.int .u8 h.tos, .int .u16 h.id, .int .u8 h.fl, .int .u16 h.off, .int .u8 h.ttl, .int .u8 h.pr, .int .u32 h.src, .int .u32 h.dst, SV h.o] 61 := Blk.below (by (repeat' (first | (with_reducible (first | assumption | exact Blk.alloc_new _ _ _ (by first | rfl | (simp; done) | omega) | apply Blk.drewN | apply Blk.drew | apply Blk.alloc_old | apply Blk.set_same | apply Blk.set_other)) | (show (_ : Nat) ≠ _; first | omega | (simp; done) | (simp; omega)) | ((simp only [List.setIfInBounds_toArray, List.set_cons_succ, List.set_cons_zero]); (with_reducible exact rfl)) | (with_reducible exact rfl) | (show (_ : Array Value) = _; exact rfl)))) hb1 (by first | (simp; done) | omega | (simp; omega))
  have g1 : Below w.heap.size w w1 := by refine Below.trans ?_ (hb1.mono ?_) <;> (repeat' (first | (with_reducible (first | exact Below.refl _ _ | assumption | refine below_drewN ?_ _ | refine Below.drew ?_ | refine Below.alloc ?_ ?_ _ | refine Below.setCell ?_ ?_ _)) | go_size))
  have hz1 := hb1.size
  (try simp at hz1)
  clear hb1
  replace cA := A1.cell
  replace fA := A1.frozen
  replace zA := A1.size
  go_wp2_with fail
  refine (ip44ref h _).mono ?_
  rintro e w2 ⟨rfl, hb2⟩
  have A2 : Blk w2 (w.heap.size) #[.int .u8 h.tos, .int .u16 h.id, .int .u8 h.fl, .int .u16 h.off, .int .u8 h.ttl, .int .u8 h.pr, .int .u32 h.src, .int .u32 h.dst, SV h.o] 61 := Blk.below (by (repeat' (first | (with_reducible (first | assumption | exact Blk.alloc_new _ _ _ (by first | rfl | (simp; done) | omega) | apply Blk.drewN | apply Blk.drew | apply Blk.alloc_old | apply Blk.set_same | apply Blk.set_other)) | (show (_ : Nat) ≠ _; first | omega | (simp; done) | (simp; omega)) | ((simp only [List.setIfInBounds_toArray, List.set_cons_succ, List.set_cons_zero]); (with_reducible exact rfl)) | (with_reducible exact rfl) | (show (_ : Array Value) = _; exact rfl)))) hb2 (by first | (simp; done) | omega | (simp; omega))
  have g2 : Below w.heap.size w w2 := by refine Below.trans ?_ (hb2.mono ?_) <;> (repeat' (first | (with_reducible (first | exact Below.refl _ _ | assumption | refine below_drewN ?_ _ | refine Below.drew ?_ | refine Below.alloc ?_ ?_ _ | refine Below.setCell ?_ ?_ _)) | go_size))
  have hz2 := hb2.size
  (try simp at hz2)
  clear hb2
  replace cA := A2.cell
  replace fA := A2.frozen
  replace zA := A2.size
  go_wp2_with fail
  refine (KW.out _).mono ?_
  rintro e w3 ⟨rfl, hb3⟩
  have A3 : Blk w3 (w.heap.size) #[.int .u8 h.tos, .int .u16 h.id, .int .u8 h.fl, .int .u16 h.off, .int .u8 h.ttl, .int .u8 h.pr, .int .u32 h.src, .int .u32 h.dst, SV h.o] 61 := Blk.below (by (repeat' (first | (with_reducible (first | assumption | exact Blk.alloc_new _ _ _ (by first | rfl | (simp; done) | omega) | apply Blk.drewN | apply Blk.drew | apply Blk.alloc_old | apply Blk.set_same | apply Blk.set_other)) | (show (_ : Nat) ≠ _; first | omega | (simp; done) | (simp; omega)) | ((simp only [List.setIfInBounds_toArray, List.set_cons_succ, List.set_cons_zero]); (with_reducible exact rfl)) | (with_reducible exact rfl) | (show (_ : Array Value) = _; exact rfl)))) hb3 (by first | (simp; done) | omega | (simp; omega))
  have g3 : Below w.heap.size w w3 := by refine Below.trans ?_ (hb3.mono ?_) <;> (repeat' (first | (with_reducible (first | exact Below.refl _ _ | assumption | refine below_drewN ?_ _ | refine Below.drew ?_ | refine Below.alloc ?_ ?_ _ | refine Below.setCell ?_ ?_ _)) | go_size))
  have hz3 := hb3.size
  (try simp at hz3)
  clear hb3
  replace cA := A3.cell
  replace fA := A3.frozen
  replace zA := A3.size
  go_wp2_with fail
  refine (KD.out _).mono ?_
  rintro e w4 ⟨rfl, hb4⟩
  have A4 : Blk w4 (w.heap.size) #[.int .u8 h.tos, .int .u16 h.id, .int .u8 h.fl, .int .u16 h.off, .int .u8 h.ttl, .int .u8 h.pr, .int .u32 h.src, .int .u32 h.dst, SV h.o] 61 := Blk.below (by (repeat' (first | (with_reducible (first | assumption | exact Blk.alloc_new _ _ _ (by first | rfl | (simp; done) | omega) | apply Blk.drewN | apply Blk.drew | apply Blk.alloc_old | apply Blk.set_same | apply Blk.set_other)) | (show (_ : Nat) ≠ _; first | omega | (simp; done) | (simp; omega)) | ((simp only [List.setIfInBounds_toArray, List.set_cons_succ, List.set_cons_zero]); (with_reducible exact rfl)) | (with_reducible exact rfl) | (show (_ : Array Value) = _; exact rfl)))) hb4 (by first | (simp; done) | omega | (simp; omega))
  have g4 : Below w.heap.size w w4 := by refine Below.trans ?_ (hb4.mono ?_) <;> (repeat' (first | (with_reducible (first | exact Below.refl _ _ | assumption | refine below_drewN ?_ _ | refine Below.drew ?_ | refine Below.alloc ?_ ?_ _ | refine Below.setCell ?_ ?_ _)) | go_size))
  have hz4 := hb4.size
  (try simp at hz4)
  clear hb4
  replace cA := A4.cell
  replace fA := A4.frozen
  replace zA := A4.size
  go_wp2_with fail
  refine (KF.out _).mono ?_
  rintro e w5 ⟨rfl, hb5⟩
  have A5 : Blk w5 (w.heap.size) #[.int .u8 h.tos, .int .u16 h.id, .int .u8 h.fl, .int .u16 h.off, .int .u8 h.ttl, .int .u8 h.pr, .int .u32 h.src, .int .u32 h.dst, SV h.o] 61 := Blk.below (by (repeat' (first | (with_reducible (first | assumption | exact Blk.alloc_new _ _ _ (by first | rfl | (simp; done) | omega) | apply Blk.drewN | apply Blk.drew | apply Blk.alloc_old | apply Blk.set_same | apply Blk.set_other)) | (show (_ : Nat) ≠ _; first | omega | (simp; done) | (simp; omega)) | ((simp only [List.setIfInBounds_toArray, List.set_cons_succ, List.set_cons_zero]); (with_reducible exact rfl)) | (with_reducible exact rfl) | (show (_ : Array Value) = _; exact rfl)))) hb5 (by first | (simp; done) | omega | (simp; omega))
  have X5 : Blk w5 (w4.heap.size) #[.int .u8 h.tos, .int .u16 h.id, .int .u8 h.fl, .int .u16 h.off, .int .u8 h.ttl, .int .u8 h.pr, .int .u32 h.src, .int .u32 h.dst, SV F] 61 := Blk.below (by (repeat' (first | (with_reducible (first | assumption | exact Blk.alloc_new _ _ _ (by first | rfl | (simp; done) | omega) | apply Blk.drewN | apply Blk.drew | apply Blk.alloc_old | apply Blk.set_same | apply Blk.set_other)) | (show (_ : Nat) ≠ _; first | omega | (simp; done) | (simp; omega)) | ((simp only [List.setIfInBounds_toArray, List.set_cons_succ, List.set_cons_zero]); (with_reducible exact rfl)) | (with_reducible exact rfl) | (show (_ : Array Value) = _; exact rfl)))) hb5 (by first | (simp; done) | omega | (simp; omega))
  have g5 : Below w.heap.size w w5 := by refine Below.trans ?_ (hb5.mono ?_) <;> (repeat' (first | (with_reducible (first | exact Below.refl _ _ | assumption | refine below_drewN ?_ _ | refine Below.drew ?_ | refine Below.alloc ?_ ?_ _ | refine Below.setCell ?_ ?_ _)) | go_size))
  have hz5 := hb5.size
  (try simp at hz5)
  clear hb5
  replace cA := A5.cell
  replace fA := A5.frozen
  replace zA := A5.size
  replace cX := X5.cell
  replace fX := X5.frozen
  replace zX := X5.size
  go_wp2_with fail
  refine (ip44ref ⟨h.tos, h.id, h.fl, h.off, h.ttl, h.pr, h.src, h.dst, F⟩ _).mono ?_
  rintro e w6 ⟨rfl, hb6⟩
  have A6 : Blk w6 (w.heap.size) #[.int .u8 h.tos, .int .u16 h.id, .int .u8 h.fl, .int .u16 h.off, .int .u8 h.ttl, .int .u8 h.pr, .int .u32 h.src, .int .u32 h.dst, SV F] 61 := Blk.below (by (repeat' (first | (with_reducible (first | assumption | exact Blk.alloc_new _ _ _ (by first | rfl | (simp; done) | omega) | apply Blk.drewN | apply Blk.drew | apply Blk.alloc_old | apply Blk.set_same | apply Blk.set_other)) | (show (_ : Nat) ≠ _; first | omega | (simp; done) | (simp; omega)) | ((simp only [List.setIfInBounds_toArray, List.set_cons_succ, List.set_cons_zero]); (with_reducible exact rfl)) | (with_reducible exact rfl) | (show (_ : Array Value) = _; exact rfl)))) hb6 (by first | (simp; done) | omega | (simp; omega))
  have X6 : Blk w6 (w4.heap.size) #[.int .u8 h.tos, .int .u16 h.id, .int .u8 h.fl, .int .u16 h.off, .int .u8 h.ttl, .int .u8 h.pr, .int .u32 h.src, .int .u32 h.dst, SV F] 61 := Blk.below (by (repeat' (first | (with_reducible (first | assumption | exact Blk.alloc_new _ _ _ (by first | rfl | (simp; done) | omega) | apply Blk.drewN | apply Blk.drew | apply Blk.alloc_old | apply Blk.set_same | apply Blk.set_other)) | (show (_ : Nat) ≠ _; first | omega | (simp; done) | (simp; omega)) | ((simp only [List.setIfInBounds_toArray, List.set_cons_succ, List.set_cons_zero]); (with_reducible exact rfl)) | (with_reducible exact rfl) | (show (_ : Array Value) = _; exact rfl)))) hb6 (by first | (simp; done) | omega | (simp; omega))
  have g6 : Below w.heap.size w w6 := by refine Below.trans ?_ (hb6.mono ?_) <;> (repeat' (first | (with_reducible (first | exact Below.refl _ _ | assumption | refine below_drewN ?_ _ | refine Below.drew ?_ | refine Below.alloc ?_ ?_ _ | refine Below.setCell ?_ ?_ _)) | go_size))
  have hz6 := hb6.size
  (try simp at hz6)
  clear hb6
  replace cA := A6.cell
  replace fA := A6.frozen
  replace zA := A6.size
  replace cX := X6.cell
  replace fX := X6.frozen
  replace zX := X6.size
  go_wp2_with fail
  refine (KR.out _).mono ?_
  rintro e w7 ⟨rfl, hb7⟩
  have A7 : Blk w7 (w.heap.size) #[.int .u8 h.tos, .int .u16 h.id, .int .u8 h.fl, .int .u16 h.off, .int .u8 h.ttl, .int .u8 h.pr, .int .u32 h.src, .int .u32 h.dst, SV F] 61 := Blk.below (by (repeat' (first | (with_reducible (first | assumption | exact Blk.alloc_new _ _ _ (by first | rfl | (simp; done) | omega) | apply Blk.drewN | apply Blk.drew | apply Blk.alloc_old | apply Blk.set_same | apply Blk.set_other)) | (show (_ : Nat) ≠ _; first | omega | (simp; done) | (simp; omega)) | ((simp only [List.setIfInBounds_toArray, List.set_cons_succ, List.set_cons_zero]); (with_reducible exact rfl)) | (with_reducible exact rfl) | (show (_ : Array Value) = _; exact rfl)))) hb7 (by first | (simp; done) | omega | (simp; omega))
  have X7 : Blk w7 (w4.heap.size) #[.int .u8 h.tos, .int .u16 h.id, .int .u8 h.fl, .int .u16 h.off, .int .u8 h.ttl, .int .u8 h.pr, .int .u32 h.src, .int .u32 h.dst, SV F] 61 := Blk.below (by (repeat' (first | (with_reducible (first | assumption | exact Blk.alloc_new _ _ _ (by first | rfl | (simp; done) | omega) | apply Blk.drewN | apply Blk.drew | apply Blk.alloc_old | apply Blk.set_same | apply Blk.set_other)) | (show (_ : Nat) ≠ _; first | omega | (simp; done) | (simp; omega)) | ((simp only [List.setIfInBounds_toArray, List.set_cons_succ, List.set_cons_zero]); (with_reducible exact rfl)) | (with_reducible exact rfl) | (show (_ : Array Value) = _; exact rfl)))) hb7 (by first | (simp; done) | omega | (simp; omega))
  have g7 : Below w.heap.size w w7 := by refine Below.trans ?_ (hb7.mono ?_) <;> (repeat' (first | (with_reducible (first | exact Below.refl _ _ | assumption | refine below_drewN ?_ _ | refine Below.drew ?_ | refine Below.alloc ?_ ?_ _ | refine Below.setCell ?_ ?_ _)) | go_size))
  have hz7 := hb7.size
  (try simp at hz7)
  clear hb7
  replace cA := A7.cell
  replace fA := A7.frozen
  replace zA := A7.size
  replace cX := X7.cell
  replace fX := X7.frozen
  replace zX := X7.size
  go_wp2_with fail
  refine (four_true _).mono ?_
  rintro e w8 ⟨rfl, hb8⟩
  have g8 : Below w.heap.size w w8 := by refine Below.trans ?_ (hb8.mono ?_) <;> (repeat' (first | (with_reducible (first | exact Below.refl _ _ | assumption | refine below_drewN ?_ _ | refine Below.drew ?_ | refine Below.alloc ?_ ?_ _ | refine Below.setCell ?_ ?_ _)) | go_size))
  have hz8 := hb8.size
  (try simp at hz8)
  clear hb8
  go_wp2
  go_ret
  exact ⟨rfl, by (repeat' (first | (with_reducible (first | exact Below.refl _ _ | assumption | refine below_drewN ?_ _ | refine Below.drew ?_ | refine Below.alloc ?_ ?_ _ | refine Below.setCell ?_ ?_ _)) | go_size))⟩
theorem wrong_rng (h : HD) (n : Nat) : 0 ≤ wrongR h n ∧ wrongR h n ≤ 2 := by
  unfold wrongR; repeat' split
  all_goals omega
theorem filled_full {h : HD} (h3 : h.o.length ≤ 40) : full h.filled.o = full h.o := full_self (full_forty h3).2
theorem enc_filled {h : HD} {b : List Int} (hw : wrongR h b.length = 0) : wrongR h.filled b.length = 0 ∧ encR h.filled b = encR h b := by
  obtain ⟨h1, h2, h3, h4⟩ := wrong_zero hw
  have hF := full_forty h3
  have hff := filled_full h3
  have hfo : h.filled.o = full h.o := rfl
  refine ⟨?_, ?_⟩
  · unfold wrongR
    rw [hff, hfo, if_neg (by show ¬ (7 < h.fl ∨ 8191 < h.off); omega), if_neg (by omega)]
  · have e1 : frB h.filled b.length = frB h b.length := by unfold frB; rw [hff]; rfl
    have e2 : adB h.filled = adB h := rfl
    have e3 : ckB h.filled b.length = ckB h b.length := by unfold ckB; rw [e1, e2, hff]
    unfold encR; rw [e1, e2, e3, hff]
theorem filled_ok {h : HD} (ok : h.ok) : h.filled.ok := by
  obtain ⟨o1, o2, o3, o4, o5, o6, o7, o8, o9⟩ := ok
  exact ⟨o1, o2, o3, o4, o5, o6, o7, o8, full_byt o9⟩
theorem enc_byt {h : HD} {b : List Int} (ok : h.ok) (hb : Byt b) (hw : wrongR h b.length = 0) : Byt (encR h b) := by
  have hby := front_byt ok hw
  have hck := ck_rng ok hw
  intro x hx
  unfold encR at hx
  rcases List.mem_append.1 hx with hx | hx
  · exact hby x (List.mem_append.2 (.inl hx))
  rcases List.mem_append.1 hx with hx | hx
  · simp at hx; rcases hx with rfl | rfl <;> omega
  rcases List.mem_append.1 hx with hx | hx
  · exact hby x (List.mem_append.2 (.inr (List.mem_append.2 (.inl hx))))
  rcases List.mem_append.1 hx with hx | hx
  · exact hby x (List.mem_append.2 (.inr (List.mem_append.2 (.inr hx))))
  · exact hb x hx
theorem Ipv4Encodes_walk (h : HD) (ok : h.ok) (a : ByteArray) (w : World) (hz1 : h.o.length ≤ 4611686018427387904) (hz2 : a.size ≤ 4611686018427387904) : Calls Try.prog 9 #[hdv h, .string a] w fun e w' => e = .returned (.bool true) ∧ Below w.heap.size w w' := by
  rw [numsOf_sv a]
  have hl := numsOf_byt a
  have hb : (numsOf a).length ≤ 4611686018427387904 := by rw [numsOf_len]; exact hz2
  generalize numsOf a = b at hl hb ⊢
  have hr := wrong_rng h b.length
  by_cases h0 : wrongR h b.length = 0
  · obtain ⟨h1, h2, h3, h4⟩ := wrong_zero h0
    obtain ⟨d1, d2, d3⟩ := dec_enc ok h0
    obtain ⟨f1, f2⟩ := enc_filled h0
    have hF := full_forty h3
    refine encodes_ok h (full h.o) b (encR h b) w (hide fun v => ?_) (hide fun v => ?_) (hide fun v => ?_) (hide fun v => ?_) (hide fun v => ?_)
    · have k := ipEncode h b v ok hz1 hb; rw [h0, if_pos rfl] at k; exact k
    · exact ipWrong h b v ok hz1 hb 0 h0
    · have k := ipDecode (encR h b) v (enc_byt ok hl h0) (by rw [enc_len]; omega); rw [decV_ok d1, d2, d3] at k; exact k
    · exact ipFull h.o (full h.o) v hz1 rfl
    · have k := ipREnc h.filled b v (filled_ok ok) f1; rw [f2] at k; exact k
  · refine encodes_bad h b (wrongR h b.length) w (by omega) (hide fun v => ?_) (hide fun v => ?_)
    · have k := ipEncode h b v ok hz1 hb; rw [if_neg h0] at k; exact k
    · exact ipWrong h b v ok hz1 hb _ rfl
namespace ipv4EncodesDone
theorem own : ownKnob Try.prog.godebug = none := by kernel_rfl
theorem laidOut : laidOutB Try.prog = true := by kernel_rfl
set_option maxRecDepth 100000 in
theorem lifted (os : Os) (started : os.Started) (H : Type) (enc : TypeId × Value → H) :
    ReturnsInHanded {} Try.checked os 9 .any (Rows.ipv4EncodesSpec.pre6 enc Try.prog Try.f9 Rows.ipv4EncodesRow.domain false) (Rows.ipv4EncodesSpec.post enc Try.prog Try.f9 false true false false) := by
  refine returnsInHanded_of_change_sized (C := Try.checked) own started (by kernel_rfl) Try.func9
    (ChangeSpec.witness6 (enc := enc) (C := Try.checked) false ⟨#[], #[.agg #[.int .u8 0, .int .u16 0, .int .u8 0, .int .u16 0, .int .u8 0, .int .u8 0, .int .u32 0, .int .u32 0, .string ⟨#[]⟩], .string ⟨#[]⟩], []⟩ 8 (by kernel_rfl) (by kernel_rfl) (by kernel_rfl) (by kernel_rfl)) ?_
  intro W base args ds gs before hval0 hW hcnd hwt _
  have hval : ∀ (j : Nat) t v, Try.f9.params[j]? = some t → args[j]? = some v → Value.okWide Try.prog W .any base t v := hval0
  have hW' := hW
  obtain ⟨p, q, hA0, hV, rfl, hfz, hnd⟩ := hW
  have hA : DataW.TrodAll enc Try.prog W 0 (fun _ => true) true Try.f9.params.toList args.toList ds p := hA0
  rw [Try.params9] at hA hval
  obtain ⟨v0, vs0, d0, ds0, p0, q0, hargs, rfl, rfl, h0, r0⟩ := trodAll_cons hA
  obtain ⟨v1, vs1, d1, ds1, p1, q1, rfl, rfl, rfl, h1, r1⟩ := trodAll_cons r0
  obtain ⟨rfl, rfl, rfl⟩ := trodAll_nil r1
  obtain rfl : args = #[v0, v1] := by cases args; simp_all
  obtain ⟨rfl, rfl⟩ := trodVars_none hV
  have k0 := h0
  have lt0 : ∀ x ∈ p0, x.block < W.heap.size := by obtain ⟨m, hm⟩ := k0; exact DataW.trod_lt m _ _ _ hm
  obtain ⟨hh0, hs0, rfl, hok0, ho0, hw0⟩ := open_ip44h (hval 0 61 v0 rfl rfl) h0
  obtain ⟨a1, rfl, rfl, rfl, wf1⟩ := open_string Try.underlying9 (hval 1 9 v1 rfl rfl) h1
  clear hA0 hval0
  have hzz : hs0.size ≤ 140737488351232 ∧ a1.size ≤ 140737488351232 := by have hw' : DataW.weights Try.checked.prog 61 d0 = [hs0.size] := hw0; simp [DataW.weightsEach, DataW.weights, Try.params9, reachBytes] at hwt; exact ⟨of_decide_eq_true (hwt.1 _ (by rw [hw']; simp)), of_decide_eq_true hwt.2⟩
  refine (Ipv4Encodes_walk hh0 hok0 a1 W (by rw [ho0, numsOf_len]; omega) (by omega)).mono fun e W' ⟨he, bel⟩ => ?_
  subst he
  exact ⟨_, rfl, _, _, _, [], _, [], hW', trodAll_mk1 (shut_bool Try.underlying4 _), (trodAll_cons_mk (Below.trod laidOut (by kernel_rfl) (of_decide_eq_true (by kernel_rfl)) k0 bel lt0) (trodAll_cons_mk (shut_string Try.underlying9 wf1) trodAll_mk0)), rfl, bel.frame _, fun h => by cases h⟩
theorem over : Rows.ipv4EncodesRow.holds Try.pinned (OpenSpec.ofChange Rows.ipv4EncodesSpec) :=
  OpenClaim.holds_of_wide 9 Try.f9 rfl rfl rfl rfl rfl rfl rfl ⟨rfl, rfl, rfl, rfl, rfl⟩ rfl rfl rfl rfl rfl (by kernel_rfl) Try.func9 (by kernel_rfl)
    (of_decide_eq_true (by kernel_rfl)) (by unfold Func.isWrapper; first | (rw [if_pos (by decide +kernel)]; kernel_rfl) | (rw [if_neg (by decide +kernel)]; exact ⟨rfl, rfl⟩))
    (fun os started H enc _ => lifted os started H enc)
end ipv4EncodesDone
theorem Ipv4Encodes_holds : Rows.Ipv4EncodesSaid := ipv4EncodesDone.over

end Go.Proofs.Ytldahcfggeebgaa
