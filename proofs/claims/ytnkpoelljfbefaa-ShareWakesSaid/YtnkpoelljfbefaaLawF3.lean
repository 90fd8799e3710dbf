/-
  The statement ShareWakes: behind a wake the virtual time is the greater one of the least one of the siblings, and of its own ahead of it; with more bytes it is no less. Conditions: none.
-/
import Derived.Test.YtnkpoelljfbefaaShareT
import Derived.Test.YtnkpoelljfbefaaFrame
import Derived.Deep.Slices
namespace Go.Proofs.Ytnkpoelljfbefaa
open Go.ChangeShapes Go.WideShapes Go.ChangeAt Go.RowKit
open Go.Sort
set_option linter.unusedVariables false
set_option linter.unusedSimpArgs false
theorem u64x2list2 {α : Type} {l : List α} (h : l.length = 2) : ∃ a0 a1, l = [a0, a1] := by
  match l, h with
  | [a0, a1], _ => exact ⟨a0, a1, rfl⟩
theorem cells_u64x2 {H : Type} {w : World} {base : Nat} {spare : Nat → Bool} {held : Bool} {enc : TypeId × Value → H} {fuel : Nat} {c0 c1 : Value} {x : DataW H × List MemPlace} (hf : DataW.trod enc Try.prog w base spare held fuel 33 [c0, c1] = some x) :
    ∃ (x0 : Int) (x1 : Int), [c0, c1] = [.int .u64 x0, .int .u64 x1] ∧ (0 ≤ x0 ∧ x0 ≤ 18446744073709551615) ∧ (0 ≤ x1 ∧ x1 ≤ 18446744073709551615) := by
  have k0 : Try.prog.cellsOf 33 = 2 := by kernel_rfl
  have k1 : Try.prog.cellsOf 22 = 1 := by kernel_rfl
  obtain ⟨ys0, m0, _, _, _, hl0, hx0⟩ := DataW.trod_array Try.underlying33 hf
  obtain ⟨y0_0, y0_1, rfl⟩ := u64x2list2 hl0
  have q0_0 := hx0 0 (by simp)
  have q0_1 := hx0 1 (by simp)
  simp [k1] at q0_0 q0_1
  obtain ⟨x0, e0, _, w0⟩ := DataW.trod_int Try.underlying22 q0_0
  obtain ⟨x1, e1, _, w1⟩ := DataW.trod_int Try.underlying22 q0_1
  simp at e0 e1
  subst e0 e1
  exact ⟨x0, x1, rfl, bounds_u64 w0, bounds_u64 w1⟩
set_option maxRecDepth 100000 in
theorem open_u64x2 {H : Type} {w : World} {base : Nat} {spare : Nat → Bool} {held : Bool} {enc : TypeId × Value → H} {r : Reach} {b0 : Nat} {v : Value} {d : DataW H} {p : List MemPlace} (hv : Value.okWide Try.prog w r b0 33 v) (h : DataW.Trod enc Try.prog w base spare held 33 v d p) :
    ∃ (x0 : Int) (x1 : Int), v = .agg #[.int .u64 x0, .int .u64 x1] ∧ (0 ≤ x0 ∧ x0 ≤ 18446744073709551615) ∧ (0 ≤ x1 ∧ x1 ≤ 18446744073709551615) := by
  obtain ⟨cs, rfl, hsz⟩ := okWide_arr Try.underlying33 hv
  obtain ⟨l⟩ := cs
  obtain ⟨c0, c1, rfl⟩ := u64x2list2 (l := l) (hsz.trans (show Try.prog.cellsOf 33 = 2 by kernel_rfl))
  obtain ⟨fuel, hf⟩ := h
  obtain ⟨x0, x1, e, bs⟩ := cells_u64x2 (x := (d, p)) (show DataW.trod enc Try.prog w base spare held fuel 33 [c0, c1] = some (d, p) by simpa [Value.cells] using hf)
  simp at e
  obtain ⟨rfl, rfl⟩ := e
  exact ⟨x0, x1, rfl, bs⟩
/-- Structs that came in: each one's cells. -/
def Rows_u64x2 (w : World) (a : Option Addr) (len : Nat) : Prop :=
  len = 0 ∨ ∃ b off, a = some ⟨b, off, none⟩ ∧ b < w.heap.size ∧ ∀ i, i < len → ∃ (x0 : Int) (x1 : Int), (0 ≤ x0 ∧ x0 ≤ 18446744073709551615) ∧ (0 ≤ x1 ∧ x1 ≤ 18446744073709551615) ∧ w.cell? ⟨b, off + i * 2, none⟩ = some (.int .u64 x0) ∧ w.cell? ⟨b, off + i * 2 + 1, none⟩ = some (.int .u64 x1)
theorem u64x2_cell_lt {w : World} {b o : Nat} {v : Value} (h : w.cell? ⟨b, o, none⟩ = some v) : b < w.heap.size := by
  by_cases hb : b < w.heap.size
  · exact hb
  · simp [World.cell?, Array.getElem?_eq_none (show w.heap.size ≤ b by omega)] at h
theorem u64x2_cell_add {w : World} {b off : Nat} {n j : Nat} {v : Option Value} (h : w.cell? (((⟨b, off, none⟩ : Addr).add n).add j) = v) : w.cell? ⟨b, off + n + j, none⟩ = v := by
  rw [Go.Deep.add_add] at h
  unfold Addr.add at h
  by_cases h0 : n + j = 0
  · have e1 : n = 0 := by omega
    have e2 : j = 0 := by omega
    subst e1 e2; simpa using h
  · rw [if_neg h0] at h
    rw [show off + n + j = off + (n + j) by omega]; exact h
theorem open_u64x2s {H : Type} {w : World} {base : Nat} {spare : Nat → Bool} {held : Bool} {enc : TypeId × Value → H} {s : Option Addr} {len cap fuel : Nat} {x : DataW H × List MemPlace} (h : DataW.trod enc Try.prog w base spare held fuel 51 [.slice s len cap] = some x) : Rows_u64x2 w s len ∧ len ≤ maxLen := by
  rcases Go.Deep.open_slice Try.underlying51 h with ⟨hcs, _⟩ | ⟨a, len', cap', m, n, D, Pl, hcs, hb, hl, hm, hmm, hx, hi⟩
  · simp at hcs
    obtain ⟨rfl, rfl, rfl⟩ := hcs
    exact ⟨.inl rfl, by unfold maxLen; omega⟩
  · simp at hcs
    obtain ⟨rfl, rfl, rfl⟩ := hcs
    refine ⟨?_, by omega⟩
    by_cases h0 : len = 0
    · exact .inl h0
    right
    have hlm : len ≤ m := by rw [hmm]; split <;> omega
    have kN : Try.prog.cellsOf 33 = 2 := by kernel_rfl
    rw [kN] at hi
    have hall : ∀ i, i < len → ∃ (x0 : Int) (x1 : Int), (0 ≤ x0 ∧ x0 ≤ 18446744073709551615) ∧ (0 ≤ x1 ∧ x1 ≤ 18446744073709551615) ∧ ∀ j, j < 2 → w.cell? ((a.add (i * 2)).add j) = ([.int .u64 x0, .int .u64 x1] : List Value)[j]? := by
      intro i hil
      obtain ⟨cs', hc, ht⟩ := hi i (by omega)
      obtain ⟨_, hlen, hat⟩ := World.cells?_some hc
      obtain ⟨c0, c1, rfl⟩ := u64x2list2 hlen
      obtain ⟨x0, x1, e, n0, n1⟩ := cells_u64x2 ht
      rw [e] at hat
      exact ⟨x0, x1, n0, n1, hat⟩
    obtain ⟨b, off, spot⟩ := a
    obtain ⟨_, _, _, _, hc0⟩ := hall 0 (by omega)
    have hspot : spot = none := by
      have := hc0 0 (by omega)
      simpa [Addr.add] using World.cell?_spot (by simpa [Addr.add] using this)
    subst hspot
    refine ⟨b, off, rfl, u64x2_cell_lt (by have := u64x2_cell_add (hc0 0 (by omega)); simpa using this), fun i hil => ?_⟩
    obtain ⟨x0, x1, n0, n1, hc⟩ := hall i hil
    exact ⟨x0, x1, n0, n1, u64x2_cell_add (hc 0 (by omega)), u64x2_cell_add (hc 1 (by omega))⟩
theorem wakes_first {m d n low p : Int} (h : Lin m d n) (hc : CIn m d n) (hf : FIn low (p * 65536)) (c : CH) (hz : c.has = false) :
    c.took p = c ∧ (c.wake m d n low p).has = true ∧ Kept m d n low (c.wake m d n low p).r ∧ (c.wake m d n low p).t = low ∧ (c.wake m d n low p).t = (c.wake m d n low p).r.time p := by
  unfold CH.took CH.wake
  simp only [hz, Bool.false_eq_true, if_false]
  exact ⟨trivial, trivial, Kept.one h hc hf, start_time h hc hf, trivial⟩
theorem wakes_next {m d n low low0 p p0 : Int} (h : Lin m d n) (hc : CIn m d n) (hf : FIn low (p * 65536)) (c : CH) (hz : c.has = true) (hk : Kept m d n low0 c.r) (h0 : low0 ≤ low) (ht : c.t = c.r.time p0) (hp : 0 ≤ p0 ∧ p0 ≤ p) :
    c.t ≤ (c.took p).t ∧ ((c.took p).wake m d n low p).has = true ∧ Kept m d n low ((c.took p).wake m d n low p).r ∧ ((c.took p).wake m d n low p).t = max low (c.took p).t ∧ ((c.took p).wake m d n low p).t = ((c.took p).wake m d n low p).r.time p := by
  unfold CH.took CH.wake
  simp only [hz, if_true]
  refine ⟨?_, trivial, (hk.later h0).meet h hc hf, (hk.later h0).time h hc hf, trivial⟩
  rw [ht]; exact RN.time_mono hk.1 hp.1 hp.2
theorem rightC (m d n : Int) (b : Bool) (w : World) (hm : 0 ≤ m) (hd : 0 ≤ d) (hn : 0 ≤ n) (hb : (kd m d n == 2 || kd m d n == 3) = b) :
    Calls Try.prog 17 #[.agg #[.int .u64 m, .int .u64 d, .int .u64 n]] w fun e w' => e = .returned (.bool b) ∧ Below w.heap.size w w' := by
  obtain ⟨k, hk⟩ : ∃ k, kd m d n = k := ⟨_, rfl⟩
  rw [hk] at hb
  have Hk := hide hk; clear hk
  by_cases h2 : k = 2
  · have d2 : (k == 2) = true := beq_iff_eq.2 h2
    rw [d2] at hb
    go_enter Try.func17, Try.ntmps17
    go_wp2_with (first | (go_at_call 31; refine (curveOf_any m d n k _ hm hd hn Hk.out).mono ?_; rintro e w' ⟨rfl, hb'⟩; have hbx : Below w.heap.size w w' := (by refine Below.trans ?_ (Below.mono hb' ?_) <;> (repeat' (first | (with_reducible (first | exact Below.refl _ _ | assumption | refine below_drewN ?_ _ | refine Below.drew ?_ | refine Below.alloc ?_ ?_ _ | refine Below.setCell ?_ ?_ _)) | go_size))); have hbs := hb'.size; (try simp at hbs); have hkC : Blk w' (w.heap.size) #[.int .u64 m, .int .u64 d, .int .u64 n] 32 := Blk.below (by (repeat' (first | (with_reducible (first | assumption | exact Blk.alloc_new _ _ _ (by first | rfl | (simp; done) | omega) | apply Blk.drewN | apply Blk.drew | apply Blk.alloc_old | apply Blk.set_same | apply Blk.set_other)) | (show (_ : Nat) ≠ _; first | omega | (simp; done) | (simp; omega)) | ((simp only [List.setIfInBounds_toArray, List.set_cons_succ, List.set_cons_zero]); (with_reducible exact rfl)) | (with_reducible exact rfl) | (show (_ : Array Value) = _; exact rfl)))) hb' (by first | (simp; done) | omega | (simp; omega)); have cC := hkC.cell; have fC := hkC.frozen; have zC := hkC.size; skip; clear hb'))
    go_ret
    exact ⟨retb (by rw [← hb]; rfl), by (repeat' (first | (with_reducible (first | exact Below.refl _ _ | assumption | refine below_drewN ?_ _ | refine Below.drew ?_ | refine Below.alloc ?_ ?_ _ | refine Below.setCell ?_ ?_ _)) | go_size))⟩
  · have d2 : (k == 2) = false := beq_eq_false_iff_ne.2 h2
    rw [d2] at hb
    by_cases h3 : k = 3
    · have d3 : (k == 3) = true := beq_iff_eq.2 h3
      rw [d3] at hb
      go_enter Try.func17, Try.ntmps17
      go_wp2_with (first | (go_at_call 31; refine (curveOf_any m d n k _ hm hd hn Hk.out).mono ?_; rintro e w' ⟨rfl, hb'⟩; have hbx : Below w.heap.size w w' := (by refine Below.trans ?_ (Below.mono hb' ?_) <;> (repeat' (first | (with_reducible (first | exact Below.refl _ _ | assumption | refine below_drewN ?_ _ | refine Below.drew ?_ | refine Below.alloc ?_ ?_ _ | refine Below.setCell ?_ ?_ _)) | go_size))); have hbs := hb'.size; (try simp at hbs); have hkC : Blk w' (w.heap.size) #[.int .u64 m, .int .u64 d, .int .u64 n] 32 := Blk.below (by (repeat' (first | (with_reducible (first | assumption | exact Blk.alloc_new _ _ _ (by first | rfl | (simp; done) | omega) | apply Blk.drewN | apply Blk.drew | apply Blk.alloc_old | apply Blk.set_same | apply Blk.set_other)) | (show (_ : Nat) ≠ _; first | omega | (simp; done) | (simp; omega)) | ((simp only [List.setIfInBounds_toArray, List.set_cons_succ, List.set_cons_zero]); (with_reducible exact rfl)) | (with_reducible exact rfl) | (show (_ : Array Value) = _; exact rfl)))) hb' (by first | (simp; done) | omega | (simp; omega)); have cC := hkC.cell; have fC := hkC.frozen; have zC := hkC.size; skip; clear hb'))
      go_ret
      exact ⟨retb (by rw [← hb]; rfl), by (repeat' (first | (with_reducible (first | exact Below.refl _ _ | assumption | refine below_drewN ?_ _ | refine Below.drew ?_ | refine Below.alloc ?_ ?_ _ | refine Below.setCell ?_ ?_ _)) | go_size))⟩
    · have d3 : (k == 3) = false := beq_eq_false_iff_ne.2 h3
      rw [d3] at hb
      go_enter Try.func17, Try.ntmps17
      go_wp2_with (first | (go_at_call 31; refine (curveOf_any m d n k _ hm hd hn Hk.out).mono ?_; rintro e w' ⟨rfl, hb'⟩; have hbx : Below w.heap.size w w' := (by refine Below.trans ?_ (Below.mono hb' ?_) <;> (repeat' (first | (with_reducible (first | exact Below.refl _ _ | assumption | refine below_drewN ?_ _ | refine Below.drew ?_ | refine Below.alloc ?_ ?_ _ | refine Below.setCell ?_ ?_ _)) | go_size))); have hbs := hb'.size; (try simp at hbs); have hkC : Blk w' (w.heap.size) #[.int .u64 m, .int .u64 d, .int .u64 n] 32 := Blk.below (by (repeat' (first | (with_reducible (first | assumption | exact Blk.alloc_new _ _ _ (by first | rfl | (simp; done) | omega) | apply Blk.drewN | apply Blk.drew | apply Blk.alloc_old | apply Blk.set_same | apply Blk.set_other)) | (show (_ : Nat) ≠ _; first | omega | (simp; done) | (simp; omega)) | ((simp only [List.setIfInBounds_toArray, List.set_cons_succ, List.set_cons_zero]); (with_reducible exact rfl)) | (with_reducible exact rfl) | (show (_ : Array Value) = _; exact rfl)))) hb' (by first | (simp; done) | omega | (simp; omega)); have cC := hkC.cell; have fC := hkC.frozen; have zC := hkC.size; skip; clear hb'))
      go_ret
      exact ⟨retb (by rw [← hb]; rfl), by (repeat' (first | (with_reducible (first | exact Below.refl _ _ | assumption | refine below_drewN ?_ _ | refine Below.drew ?_ | refine Below.alloc ?_ ?_ _ | refine Below.setCell ?_ ?_ _)) | go_size))⟩
def SWRel (m d n tot : Int) (len NX : Nat) (w : World) (lw sm i : Value) (wr : World) : Prop := ∃ (k : Nat) (low sum : Int) (c : CH), k ≤ len ∧ i = .int .i64 k ∧ lw = .int .u64 low ∧ sm = .int .u64 sum ∧ Below w.heap.size w wr ∧ Blk wr (w.heap.size) #[.int .u64 m, .int .u64 d, .int .u64 n] 32 ∧ Blk wr NX #[.bool c.has, .int .u64 c.r.f.X, .int .u64 (hi (c.r.f.Y)), .int .u64 (lo (c.r.f.Y)), .int .u64 c.r.f.M, .int .u64 c.r.t.X, .int .u64 (hi (c.r.t.Y)), .int .u64 (lo (c.r.t.Y)), .int .u64 c.r.t.M, .bool c.r.b, .int .u64 c.t] 30 ∧ (0 ≤ low ∧ low ≤ k * 1099511627776) ∧ (tot ≤ sum ∧ sum ≤ tot + k * 4294967296) ∧ (k = 0 → c = ⟨false, ⟨⟨0, 0, 0⟩, ⟨0, 0, 0⟩, false⟩, 0⟩) ∧ (0 < k → c.has = true ∧ Kept m d n low c.r ∧ c.t = c.r.time sum)
set_option maxRecDepth 100000 in
set_option maxHeartbeats 8000000 in
theorem SW_main (m d n tot : Int) (a0 : Option Addr) (len cap : Nat) (w : World) (hm : 0 ≤ m ∧ m ≤ 18446744073709551615) (hd : 0 ≤ d ∧ d ≤ 18446744073709551615) (hn : 0 ≤ n ∧ n ≤ 18446744073709551615) (hL : Lin m d n) (ht : 0 ≤ tot ∧ tot ≤ 1099511627776) (hl : len ≤ 60) (hr : Rows_u64x2 w a0 len) :
    Calls Try.prog 4 #[.agg #[.int .u64 m, .int .u64 d, .int .u64 n], .slice a0 len cap, .int .u64 tot] w fun e w' => e = .returned (.bool true) ∧ Below w.heap.size w w' := by
  have hc := hL.cin hm.1 hd.1 hn.1
  have d1 : decide ((60 : Int) < (len : Int)) = false := decide_eq_false (by omega)
  have d2 : decide (1099511627776 < tot) = false := decide_eq_false (by omega)
  have Hr := hide hr; clear hr
  have HL := hide hL
  have hR : (kd m d n == 2 || kd m d n == 3) = true := by rcases hL with h | h <;> simp [h]
  have HR := hide hR; clear hR hL
  go_enter Try.func4, Try.ntmps4
  go_wp2_with fail
  refine (rightC m d n true _ hm.1 hd.1 hn.1 HR.out).mono ?_
  rintro e w1 ⟨rfl, hb1⟩
  have C1 : Blk w1 (w.heap.size) #[.int .u64 m, .int .u64 d, .int .u64 n] 32 := Blk.below (by (repeat' (first | (with_reducible (first | assumption | exact Blk.alloc_new _ _ _ (by first | rfl | (simp; done) | omega) | apply Blk.drewN | apply Blk.drew | apply Blk.alloc_old | apply Blk.set_same | apply Blk.set_other)) | (show (_ : Nat) ≠ _; first | omega | (simp; done) | (simp; omega)) | ((simp only [List.setIfInBounds_toArray, List.set_cons_succ, List.set_cons_zero]); (with_reducible exact rfl)) | (with_reducible exact rfl) | (show (_ : Array Value) = _; exact rfl)))) hb1 (by first | (simp; done) | omega | (simp; omega))
  have g1 : Below w.heap.size w w1 := by refine Below.trans ?_ (hb1.mono ?_) <;> (repeat' (first | (with_reducible (first | exact Below.refl _ _ | assumption | refine below_drewN ?_ _ | refine Below.drew ?_ | refine Below.alloc ?_ ?_ _ | refine Below.setCell ?_ ?_ _)) | go_size))
  have hz1 := hb1.size
  (try simp at hz1)
  clear hb1
  replace cC := C1.cell
  replace fC := C1.frozen
  replace zC := C1.size
  go_wp2
  obtain ⟨NX, hNX⟩ : ∃ NX, w1.heap.size = NX := ⟨_, rfl⟩
  have hNw : w.heap.size < NX := by omega
  go_loopw [8, 9, 30] (fun lw sm i wr => SWRel m d n tot len NX w lw sm i wr) (fun _ _ i _ => len - (intOf i).toNat)
  case atStart => exact ⟨0, 0, tot, ⟨false, ⟨⟨0, 0, 0⟩, ⟨0, 0, 0⟩, false⟩, 0⟩, Nat.zero_le _, rfl, rfl, rfl, by (repeat' (first | (with_reducible (first | exact Below.refl _ _ | assumption | refine below_drewN ?_ _ | refine Below.drew ?_ | refine Below.alloc ?_ ?_ _ | refine Below.setCell ?_ ?_ _)) | go_size)), by (repeat' (first | (with_reducible (first | assumption | exact Blk.alloc_new _ _ _ (by first | rfl | (simp; done) | omega) | apply Blk.drewN | apply Blk.drew | apply Blk.alloc_old | apply Blk.set_same | apply Blk.set_other)) | (show (_ : Nat) ≠ _; first | omega | (simp; done) | (simp; omega)) | ((simp only [List.setIfInBounds_toArray, List.set_cons_succ, List.set_cons_zero]); (with_reducible exact rfl)) | (with_reducible exact rfl) | (show (_ : Array Value) = _; exact rfl))), by rw [← hNX]; show Blk _ _ #[.bool false, .int .u64 0, .int .u64 0, .int .u64 0, .int .u64 0, .int .u64 0, .int .u64 0, .int .u64 0, .int .u64 0, .bool false, .int .u64 0] 30; (repeat' (first | (with_reducible (first | assumption | exact Blk.alloc_new _ _ _ (by first | rfl | (simp; done) | omega) | apply Blk.drewN | apply Blk.drew | apply Blk.alloc_old | apply Blk.set_same | apply Blk.set_other)) | (show (_ : Nat) ≠ _; first | omega | (simp; done) | (simp; omega)) | ((simp only [List.setIfInBounds_toArray, List.set_cons_succ, List.set_cons_zero]); (with_reducible exact rfl)) | (with_reducible exact rfl) | (show (_ : Array Value) = _; exact rfl))), by omega, by omega, fun _ => rfl, fun h => by omega⟩
  case round =>
    obtain ⟨k, low, sum, c, hk, rfl, rfl, rfl, g0, C0, X0, hlow, hsum, hz, hI⟩ := hrel
    have cC := C0.cell; have fC := C0.frozen; have zC := C0.size
    have cX := X0.cell; have fX := X0.frozen; have zX := X0.size
    have nxr : NX < wr.heap.size := zX
    have cxr : w.heap.size < wr.heap.size := zC
    have hl0 := g0.size
    rw [hNX]
    by_cases hlt : k < len
    · obtain ⟨B, off, rfl, hB, hcs⟩ : ∃ b off, a0 = some ⟨b, off, none⟩ ∧ b < w.heap.size ∧ _ := by
        rcases Hr.out with h | h
        · omega
        · exact h
      obtain ⟨q0, q1, hq0, hq1, e0, e1⟩ := hcs k hlt
      clear hcs
      have cc : ∀ o, wr.cell? ⟨B, o, none⟩ = w.cell? ⟨B, o, none⟩ := fun o => g0.cell (p := ⟨B, o, none⟩) hB
      rw [← cc] at e0 e1
      clear cc
      obtain ⟨x0, hx0⟩ : ∃ x, q0 % 1099511627776 = x := ⟨_, rfl⟩
      obtain ⟨x1, hx1⟩ : ∃ x, q1 % 4294967296 = x := ⟨_, rfl⟩
      have y0 : 0 ≤ x0 ∧ x0 < 1099511627776 := by omega
      have y1 : 0 ≤ x1 ∧ x1 < 4294967296 := by omega
      have Hx0 := hide hx0; have Hx1 := hide hx1
      have hk60 : (k : Int) ≤ 60 := by omega
      have hf : FIn (low + x0) ((sum + x1) * 65536) := by unfold FIn; omega
      have or' : c.r.ok := by
        by_cases h0 : 0 < k
        · exact RN.small_ok (hI h0).2.1.1
        · rw [hz (by omega)]; unfold RN.ok LN.ok In128; simp
      by_cases h0 : k = 0
      · have w1' := wakes_first HL.out hc hf c (by rw [hz h0])
        obtain ⟨y, hy⟩ : ∃ y, c.took (sum + x1) = y := ⟨_, rfl⟩
        have hyc : y = c := by rw [← hy]; exact w1'.1
        obtain ⟨u, hu⟩ : ∃ u, y.wake m d n (low + x0) (sum + x1) = u := ⟨_, rfl⟩
        have w2' := w1'.2
        rw [← hyc, hu] at w2'
        obtain ⟨u1, u2, u3, u4⟩ := w2'
        have oy : y.r.ok := by rw [hyc]; exact or'
        have Hy := hide hy; have Hu := hide hu; clear hy hu w1'
        have HI := hide (show u.has = true ∧ Kept m d n (low + x0) u.r ∧ u.t = u.r.time (sum + x1) from ⟨u1, u2, u4⟩)
        clear hI hz u2 u4 hyc
        obtain ⟨uh, ur, ut⟩ := u
        simp only [] at u1 u3
        subst u1 u3
        have d3 : decide ((0 : Int) < (k : Int)) = false := decide_eq_false (by omega)
        have e0' : wr.cell? ⟨B, off, none⟩ = some (.int .u64 q0) := by simpa [h0] using e0
        have e1' : wr.cell? ⟨B, off + 1, none⟩ = some (.int .u64 q1) := by simpa [h0] using e1
        have d4 : ((k : Int) == 0) = true := beq_iff_eq.2 (by omega)
        have d5 : decide (low + x0 < low + x0) = false := decide_eq_false (by omega)
        go_wp2_with fail
        refine (took_any c y (sum + x1) _ (by omega) or' Hy.out).mono ?_
        rintro e w3 ⟨rfl, hb3⟩
        have C3 : Blk w3 (w.heap.size) #[.int .u64 m, .int .u64 d, .int .u64 n] 32 := Blk.below (by (repeat' (first | (with_reducible (first | assumption | exact Blk.alloc_new _ _ _ (by first | rfl | (simp; done) | omega) | apply Blk.drewN | apply Blk.drew | apply Blk.alloc_old | apply Blk.set_same | apply Blk.set_other)) | (show (_ : Nat) ≠ _; first | omega | (simp; done) | (simp; omega)) | ((simp only [List.setIfInBounds_toArray, List.set_cons_succ, List.set_cons_zero]); (with_reducible exact rfl)) | (with_reducible exact rfl) | (show (_ : Array Value) = _; exact rfl)))) hb3 (by first | (simp; done) | omega | (simp; omega))
        have X3 : Blk w3 (NX) #[.bool c.has, .int .u64 c.r.f.X, .int .u64 (hi (c.r.f.Y)), .int .u64 (lo (c.r.f.Y)), .int .u64 c.r.f.M, .int .u64 c.r.t.X, .int .u64 (hi (c.r.t.Y)), .int .u64 (lo (c.r.t.Y)), .int .u64 c.r.t.M, .bool c.r.b, .int .u64 c.t] 30 := Blk.below (by (repeat' (first | (with_reducible (first | assumption | exact Blk.alloc_new _ _ _ (by first | rfl | (simp; done) | omega) | apply Blk.drewN | apply Blk.drew | apply Blk.alloc_old | apply Blk.set_same | apply Blk.set_other)) | (show (_ : Nat) ≠ _; first | omega | (simp; done) | (simp; omega)) | ((simp only [List.setIfInBounds_toArray, List.set_cons_succ, List.set_cons_zero]); (with_reducible exact rfl)) | (with_reducible exact rfl) | (show (_ : Array Value) = _; exact rfl)))) hb3 (by first | (simp; done) | omega | (simp; omega))
        have Q3 : Blk w3 (wr.heap.size) #[.int .u64 q0, .int .u64 q1] 33 := Blk.below (by (repeat' (first | (with_reducible (first | assumption | exact Blk.alloc_new _ _ _ (by first | rfl | (simp; done) | omega) | apply Blk.drewN | apply Blk.drew | apply Blk.alloc_old | apply Blk.set_same | apply Blk.set_other)) | (show (_ : Nat) ≠ _; first | omega | (simp; done) | (simp; omega)) | ((simp only [List.setIfInBounds_toArray, List.set_cons_succ, List.set_cons_zero]); (with_reducible exact rfl)) | (with_reducible exact rfl) | (show (_ : Array Value) = _; exact rfl)))) hb3 (by first | (simp; done) | omega | (simp; omega))
        have g3 : Below w.heap.size w w3 := by refine Below.trans ?_ (hb3.mono ?_) <;> (repeat' (first | (with_reducible (first | exact Below.refl _ _ | assumption | refine below_drewN ?_ _ | refine Below.drew ?_ | refine Below.alloc ?_ ?_ _ | refine Below.setCell ?_ ?_ _)) | go_size))
        have hz3 := hb3.size
        (try simp at hz3)
        clear hb3
        replace cC := C3.cell
        replace fC := C3.frozen
        replace zC := C3.size
        replace cX := X3.cell
        replace fX := X3.frozen
        replace zX := X3.size
        replace cQ := Q3.cell
        replace fQ := Q3.frozen
        replace zQ := Q3.size
        go_wp2_with fail
        refine (wake_any y ⟨true, ur, low + x0⟩ m d n (low + x0) (sum + x1) _ hm hd hn (by omega) (by omega) oy Hu.out).mono ?_
        rintro e w4 ⟨rfl, hb4⟩
        have C4 : Blk w4 (w.heap.size) #[.int .u64 m, .int .u64 d, .int .u64 n] 32 := Blk.below (by (repeat' (first | (with_reducible (first | assumption | exact Blk.alloc_new _ _ _ (by first | rfl | (simp; done) | omega) | apply Blk.drewN | apply Blk.drew | apply Blk.alloc_old | apply Blk.set_same | apply Blk.set_other)) | (show (_ : Nat) ≠ _; first | omega | (simp; done) | (simp; omega)) | ((simp only [List.setIfInBounds_toArray, List.set_cons_succ, List.set_cons_zero]); (with_reducible exact rfl)) | (with_reducible exact rfl) | (show (_ : Array Value) = _; exact rfl)))) hb4 (by first | (simp; done) | omega | (simp; omega))
        have X4 : Blk w4 (NX) #[.bool c.has, .int .u64 c.r.f.X, .int .u64 (hi (c.r.f.Y)), .int .u64 (lo (c.r.f.Y)), .int .u64 c.r.f.M, .int .u64 c.r.t.X, .int .u64 (hi (c.r.t.Y)), .int .u64 (lo (c.r.t.Y)), .int .u64 c.r.t.M, .bool c.r.b, .int .u64 c.t] 30 := Blk.below (by (repeat' (first | (with_reducible (first | assumption | exact Blk.alloc_new _ _ _ (by first | rfl | (simp; done) | omega) | apply Blk.drewN | apply Blk.drew | apply Blk.alloc_old | apply Blk.set_same | apply Blk.set_other)) | (show (_ : Nat) ≠ _; first | omega | (simp; done) | (simp; omega)) | ((simp only [List.setIfInBounds_toArray, List.set_cons_succ, List.set_cons_zero]); (with_reducible exact rfl)) | (with_reducible exact rfl) | (show (_ : Array Value) = _; exact rfl)))) hb4 (by first | (simp; done) | omega | (simp; omega))
        have Y4 : Blk w4 (w3.heap.size) #[.bool y.has, .int .u64 y.r.f.X, .int .u64 (hi (y.r.f.Y)), .int .u64 (lo (y.r.f.Y)), .int .u64 y.r.f.M, .int .u64 y.r.t.X, .int .u64 (hi (y.r.t.Y)), .int .u64 (lo (y.r.t.Y)), .int .u64 y.r.t.M, .bool y.r.b, .int .u64 y.t] 30 := Blk.below (by (repeat' (first | (with_reducible (first | assumption | exact Blk.alloc_new _ _ _ (by first | rfl | (simp; done) | omega) | apply Blk.drewN | apply Blk.drew | apply Blk.alloc_old | apply Blk.set_same | apply Blk.set_other)) | (show (_ : Nat) ≠ _; first | omega | (simp; done) | (simp; omega)) | ((simp only [List.setIfInBounds_toArray, List.set_cons_succ, List.set_cons_zero]); (with_reducible exact rfl)) | (with_reducible exact rfl) | (show (_ : Array Value) = _; exact rfl)))) hb4 (by first | (simp; done) | omega | (simp; omega))
        have g4 : Below w.heap.size w w4 := by refine Below.trans ?_ (hb4.mono ?_) <;> (repeat' (first | (with_reducible (first | exact Below.refl _ _ | assumption | refine below_drewN ?_ _ | refine Below.drew ?_ | refine Below.alloc ?_ ?_ _ | refine Below.setCell ?_ ?_ _)) | go_size))
        have hz4 := hb4.size
        (try simp at hz4)
        clear hb4
        replace cC := C4.cell
        replace fC := C4.frozen
        replace zC := C4.size
        replace cX := X4.cell
        replace fX := X4.frozen
        replace zX := X4.size
        have cY := Y4.cell
        have fY := Y4.frozen
        have zY := Y4.size
        go_upto_region 16 with (fail)
        refine wp_forget (fun v => Below w.heap.size w v ∧ Blk v (w.heap.size) #[.int .u64 m, .int .u64 d, .int .u64 n] 32 ∧ Blk v (NX) #[.bool true, .int .u64 ur.f.X, .int .u64 (hi (ur.f.Y)), .int .u64 (lo (ur.f.Y)), .int .u64 ur.f.M, .int .u64 ur.t.X, .int .u64 (hi (ur.t.Y)), .int .u64 (lo (ur.t.Y)), .int .u64 ur.t.M, .bool ur.b, .int .u64 (low + x0)] 30 ∧ Blk v (w3.heap.size) #[.bool y.has, .int .u64 y.r.f.X, .int .u64 (hi (y.r.f.Y)), .int .u64 (lo (y.r.f.Y)), .int .u64 y.r.f.M, .int .u64 y.r.t.X, .int .u64 (hi (y.r.t.Y)), .int .u64 (lo (y.r.t.Y)), .int .u64 y.r.t.M, .bool y.r.b, .int .u64 y.t] 30) ⟨by (repeat' (first | (with_reducible (first | exact Below.refl _ _ | assumption | refine below_drewN ?_ _ | refine Below.drew ?_ | refine Below.alloc ?_ ?_ _ | refine Below.setCell ?_ ?_ _)) | go_size)), by (repeat' (first | (with_reducible (first | assumption | exact Blk.alloc_new _ _ _ (by first | rfl | (simp; done) | omega) | apply Blk.drewN | apply Blk.drew | apply Blk.alloc_old | apply Blk.set_same | apply Blk.set_other)) | (show (_ : Nat) ≠ _; first | omega | (simp; done) | (simp; omega)) | ((simp only [List.setIfInBounds_toArray, List.set_cons_succ, List.set_cons_zero]); (with_reducible exact rfl)) | (with_reducible exact rfl) | (show (_ : Array Value) = _; exact rfl))), by (repeat' (first | (with_reducible (first | assumption | exact Blk.alloc_new _ _ _ (by first | rfl | (simp; done) | omega) | apply Blk.drewN | apply Blk.drew | apply Blk.alloc_old | apply Blk.set_same | apply Blk.set_other)) | (show (_ : Nat) ≠ _; first | omega | (simp; done) | (simp; omega)) | ((simp only [List.setIfInBounds_toArray, List.set_cons_succ, List.set_cons_zero]); (with_reducible exact rfl)) | (with_reducible exact rfl) | (show (_ : Array Value) = _; exact rfl))), by (repeat' (first | (with_reducible (first | assumption | exact Blk.alloc_new _ _ _ (by first | rfl | (simp; done) | omega) | apply Blk.drewN | apply Blk.drew | apply Blk.alloc_old | apply Blk.set_same | apply Blk.set_other)) | (show (_ : Nat) ≠ _; first | omega | (simp; done) | (simp; omega)) | ((simp only [List.setIfInBounds_toArray, List.set_cons_succ, List.set_cons_zero]); (with_reducible exact rfl)) | (with_reducible exact rfl) | (show (_ : Array Value) = _; exact rfl)))⟩ ?_
        rintro w5 ⟨g5, C5, X5, Y5⟩
        have hz5 := g5.size
        replace cC := C5.cell
        replace fC := C5.frozen
        replace zC := C5.size
        replace cX := X5.cell
        replace fX := X5.frozen
        replace zX := X5.size
        replace cY := Y5.cell
        replace fY := Y5.frozen
        replace zY := Y5.size
        go_wp2
        go_roundw
        case rel => exact ⟨k + 1, low + x0, sum + x1, ⟨true, ur, low + x0⟩, by omega, by go_num, rfl, rfl, by (repeat' (first | (with_reducible (first | exact Below.refl _ _ | assumption | refine below_drewN ?_ _ | refine Below.drew ?_ | refine Below.alloc ?_ ?_ _ | refine Below.setCell ?_ ?_ _)) | go_size)), by (repeat' (first | (with_reducible (first | assumption | exact Blk.alloc_new _ _ _ (by first | rfl | (simp; done) | omega) | apply Blk.drewN | apply Blk.drew | apply Blk.alloc_old | apply Blk.set_same | apply Blk.set_other)) | (show (_ : Nat) ≠ _; first | omega | (simp; done) | (simp; omega)) | ((simp only [List.setIfInBounds_toArray, List.set_cons_succ, List.set_cons_zero]); (with_reducible exact rfl)) | (with_reducible exact rfl) | (show (_ : Array Value) = _; exact rfl))), by (repeat' (first | (with_reducible (first | assumption | exact Blk.alloc_new _ _ _ (by first | rfl | (simp; done) | omega) | apply Blk.drewN | apply Blk.drew | apply Blk.alloc_old | apply Blk.set_same | apply Blk.set_other)) | (show (_ : Nat) ≠ _; first | omega | (simp; done) | (simp; omega)) | ((simp only [List.setIfInBounds_toArray, List.set_cons_succ, List.set_cons_zero]); (with_reducible exact rfl)) | (with_reducible exact rfl) | (show (_ : Array Value) = _; exact rfl))), by omega, by omega, fun h => by omega, fun _ => ⟨rfl, HI.out.2⟩⟩
        case measure => simp [intOf]; omega
      · have h0' : 0 < k := by omega
        obtain ⟨i1, i2, i3⟩ := hI h0'
        have w1' := wakes_next HL.out hc hf c i1 i2 (show low ≤ low + x0 by omega) i3 ⟨show 0 ≤ sum by omega, show sum ≤ sum + x1 by omega⟩
        obtain ⟨y, hy⟩ : ∃ y, c.took (sum + x1) = y := ⟨_, rfl⟩
        rw [hy] at w1'
        obtain ⟨u, hu⟩ : ∃ u, y.wake m d n (low + x0) (sum + x1) = u := ⟨_, rfl⟩
        rw [hu] at w1'
        obtain ⟨v1, u1, u2, u3, u4⟩ := w1'
        have oy : y.r.ok := by rw [← hy]; unfold CH.took; split <;> exact or'
        have Hy := hide hy; have Hu := hide hu; clear hy hu
        have HI := hide (show u.has = true ∧ Kept m d n (low + x0) u.r ∧ u.t = u.r.time (sum + x1) from ⟨u1, u2, u4⟩)
        clear hI hz u2 u4 i1 i2 i3
        obtain ⟨uh, ur, ut⟩ := u
        simp only [] at u1 u3
        subst u1
        have d3 : decide ((0 : Int) < (k : Int)) = true := decide_eq_true (by omega)
        have d4 : ((k : Int) == 0) = false := beq_eq_false_iff_ne.2 (by omega)
        have d5 : decide (y.t < c.t) = false := decide_eq_false (by omega)
        have d6 : decide (ut < low + x0) = false := decide_eq_false (by omega)
        have hmx : (if low + x0 < y.t then y.t else low + x0) = ut := by split <;> omega
        clear u3 v1
        go_wp2_with fail
        refine (took_any c y (sum + x1) _ (by omega) or' Hy.out).mono ?_
        rintro e w3 ⟨rfl, hb3⟩
        have C3 : Blk w3 (w.heap.size) #[.int .u64 m, .int .u64 d, .int .u64 n] 32 := Blk.below (by (repeat' (first | (with_reducible (first | assumption | exact Blk.alloc_new _ _ _ (by first | rfl | (simp; done) | omega) | apply Blk.drewN | apply Blk.drew | apply Blk.alloc_old | apply Blk.set_same | apply Blk.set_other)) | (show (_ : Nat) ≠ _; first | omega | (simp; done) | (simp; omega)) | ((simp only [List.setIfInBounds_toArray, List.set_cons_succ, List.set_cons_zero]); (with_reducible exact rfl)) | (with_reducible exact rfl) | (show (_ : Array Value) = _; exact rfl)))) hb3 (by first | (simp; done) | omega | (simp; omega))
        have X3 : Blk w3 (NX) #[.bool c.has, .int .u64 c.r.f.X, .int .u64 (hi (c.r.f.Y)), .int .u64 (lo (c.r.f.Y)), .int .u64 c.r.f.M, .int .u64 c.r.t.X, .int .u64 (hi (c.r.t.Y)), .int .u64 (lo (c.r.t.Y)), .int .u64 c.r.t.M, .bool c.r.b, .int .u64 c.t] 30 := Blk.below (by (repeat' (first | (with_reducible (first | assumption | exact Blk.alloc_new _ _ _ (by first | rfl | (simp; done) | omega) | apply Blk.drewN | apply Blk.drew | apply Blk.alloc_old | apply Blk.set_same | apply Blk.set_other)) | (show (_ : Nat) ≠ _; first | omega | (simp; done) | (simp; omega)) | ((simp only [List.setIfInBounds_toArray, List.set_cons_succ, List.set_cons_zero]); (with_reducible exact rfl)) | (with_reducible exact rfl) | (show (_ : Array Value) = _; exact rfl)))) hb3 (by first | (simp; done) | omega | (simp; omega))
        have Q3 : Blk w3 (wr.heap.size) #[.int .u64 q0, .int .u64 q1] 33 := Blk.below (by (repeat' (first | (with_reducible (first | assumption | exact Blk.alloc_new _ _ _ (by first | rfl | (simp; done) | omega) | apply Blk.drewN | apply Blk.drew | apply Blk.alloc_old | apply Blk.set_same | apply Blk.set_other)) | (show (_ : Nat) ≠ _; first | omega | (simp; done) | (simp; omega)) | ((simp only [List.setIfInBounds_toArray, List.set_cons_succ, List.set_cons_zero]); (with_reducible exact rfl)) | (with_reducible exact rfl) | (show (_ : Array Value) = _; exact rfl)))) hb3 (by first | (simp; done) | omega | (simp; omega))
        have g3 : Below w.heap.size w w3 := by refine Below.trans ?_ (hb3.mono ?_) <;> (repeat' (first | (with_reducible (first | exact Below.refl _ _ | assumption | refine below_drewN ?_ _ | refine Below.drew ?_ | refine Below.alloc ?_ ?_ _ | refine Below.setCell ?_ ?_ _)) | go_size))
        have hz3 := hb3.size
        (try simp at hz3)
        clear hb3
        replace cC := C3.cell
        replace fC := C3.frozen
        replace zC := C3.size
        replace cX := X3.cell
        replace fX := X3.frozen
        replace zX := X3.size
        replace cQ := Q3.cell
        replace fQ := Q3.frozen
        replace zQ := Q3.size
        go_wp2_with fail
        refine (wake_any y ⟨true, ur, ut⟩ m d n (low + x0) (sum + x1) _ hm hd hn (by omega) (by omega) oy Hu.out).mono ?_
        rintro e w4 ⟨rfl, hb4⟩
        have C4 : Blk w4 (w.heap.size) #[.int .u64 m, .int .u64 d, .int .u64 n] 32 := Blk.below (by (repeat' (first | (with_reducible (first | assumption | exact Blk.alloc_new _ _ _ (by first | rfl | (simp; done) | omega) | apply Blk.drewN | apply Blk.drew | apply Blk.alloc_old | apply Blk.set_same | apply Blk.set_other)) | (show (_ : Nat) ≠ _; first | omega | (simp; done) | (simp; omega)) | ((simp only [List.setIfInBounds_toArray, List.set_cons_succ, List.set_cons_zero]); (with_reducible exact rfl)) | (with_reducible exact rfl) | (show (_ : Array Value) = _; exact rfl)))) hb4 (by first | (simp; done) | omega | (simp; omega))
        have X4 : Blk w4 (NX) #[.bool c.has, .int .u64 c.r.f.X, .int .u64 (hi (c.r.f.Y)), .int .u64 (lo (c.r.f.Y)), .int .u64 c.r.f.M, .int .u64 c.r.t.X, .int .u64 (hi (c.r.t.Y)), .int .u64 (lo (c.r.t.Y)), .int .u64 c.r.t.M, .bool c.r.b, .int .u64 c.t] 30 := Blk.below (by (repeat' (first | (with_reducible (first | assumption | exact Blk.alloc_new _ _ _ (by first | rfl | (simp; done) | omega) | apply Blk.drewN | apply Blk.drew | apply Blk.alloc_old | apply Blk.set_same | apply Blk.set_other)) | (show (_ : Nat) ≠ _; first | omega | (simp; done) | (simp; omega)) | ((simp only [List.setIfInBounds_toArray, List.set_cons_succ, List.set_cons_zero]); (with_reducible exact rfl)) | (with_reducible exact rfl) | (show (_ : Array Value) = _; exact rfl)))) hb4 (by first | (simp; done) | omega | (simp; omega))
        have Y4 : Blk w4 (w3.heap.size) #[.bool y.has, .int .u64 y.r.f.X, .int .u64 (hi (y.r.f.Y)), .int .u64 (lo (y.r.f.Y)), .int .u64 y.r.f.M, .int .u64 y.r.t.X, .int .u64 (hi (y.r.t.Y)), .int .u64 (lo (y.r.t.Y)), .int .u64 y.r.t.M, .bool y.r.b, .int .u64 y.t] 30 := Blk.below (by (repeat' (first | (with_reducible (first | assumption | exact Blk.alloc_new _ _ _ (by first | rfl | (simp; done) | omega) | apply Blk.drewN | apply Blk.drew | apply Blk.alloc_old | apply Blk.set_same | apply Blk.set_other)) | (show (_ : Nat) ≠ _; first | omega | (simp; done) | (simp; omega)) | ((simp only [List.setIfInBounds_toArray, List.set_cons_succ, List.set_cons_zero]); (with_reducible exact rfl)) | (with_reducible exact rfl) | (show (_ : Array Value) = _; exact rfl)))) hb4 (by first | (simp; done) | omega | (simp; omega))
        have g4 : Below w.heap.size w w4 := by refine Below.trans ?_ (hb4.mono ?_) <;> (repeat' (first | (with_reducible (first | exact Below.refl _ _ | assumption | refine below_drewN ?_ _ | refine Below.drew ?_ | refine Below.alloc ?_ ?_ _ | refine Below.setCell ?_ ?_ _)) | go_size))
        have hz4 := hb4.size
        (try simp at hz4)
        clear hb4
        replace cC := C4.cell
        replace fC := C4.frozen
        replace zC := C4.size
        replace cX := X4.cell
        replace fX := X4.frozen
        replace zX := X4.size
        have cY := Y4.cell
        have fY := Y4.frozen
        have zY := Y4.size
        go_upto_region 16 with (fail)
        refine wp_forget (fun v => Below w.heap.size w v ∧ Blk v (w.heap.size) #[.int .u64 m, .int .u64 d, .int .u64 n] 32 ∧ Blk v (NX) #[.bool true, .int .u64 ur.f.X, .int .u64 (hi (ur.f.Y)), .int .u64 (lo (ur.f.Y)), .int .u64 ur.f.M, .int .u64 ur.t.X, .int .u64 (hi (ur.t.Y)), .int .u64 (lo (ur.t.Y)), .int .u64 ur.t.M, .bool ur.b, .int .u64 (ut)] 30 ∧ Blk v (w3.heap.size) #[.bool y.has, .int .u64 y.r.f.X, .int .u64 (hi (y.r.f.Y)), .int .u64 (lo (y.r.f.Y)), .int .u64 y.r.f.M, .int .u64 y.r.t.X, .int .u64 (hi (y.r.t.Y)), .int .u64 (lo (y.r.t.Y)), .int .u64 y.r.t.M, .bool y.r.b, .int .u64 y.t] 30) ⟨by (repeat' (first | (with_reducible (first | exact Below.refl _ _ | assumption | refine below_drewN ?_ _ | refine Below.drew ?_ | refine Below.alloc ?_ ?_ _ | refine Below.setCell ?_ ?_ _)) | go_size)), by (repeat' (first | (with_reducible (first | assumption | exact Blk.alloc_new _ _ _ (by first | rfl | (simp; done) | omega) | apply Blk.drewN | apply Blk.drew | apply Blk.alloc_old | apply Blk.set_same | apply Blk.set_other)) | (show (_ : Nat) ≠ _; first | omega | (simp; done) | (simp; omega)) | ((simp only [List.setIfInBounds_toArray, List.set_cons_succ, List.set_cons_zero]); (with_reducible exact rfl)) | (with_reducible exact rfl) | (show (_ : Array Value) = _; exact rfl))), by (repeat' (first | (with_reducible (first | assumption | exact Blk.alloc_new _ _ _ (by first | rfl | (simp; done) | omega) | apply Blk.drewN | apply Blk.drew | apply Blk.alloc_old | apply Blk.set_same | apply Blk.set_other)) | (show (_ : Nat) ≠ _; first | omega | (simp; done) | (simp; omega)) | ((simp only [List.setIfInBounds_toArray, List.set_cons_succ, List.set_cons_zero]); (with_reducible exact rfl)) | (with_reducible exact rfl) | (show (_ : Array Value) = _; exact rfl))), by (repeat' (first | (with_reducible (first | assumption | exact Blk.alloc_new _ _ _ (by first | rfl | (simp; done) | omega) | apply Blk.drewN | apply Blk.drew | apply Blk.alloc_old | apply Blk.set_same | apply Blk.set_other)) | (show (_ : Nat) ≠ _; first | omega | (simp; done) | (simp; omega)) | ((simp only [List.setIfInBounds_toArray, List.set_cons_succ, List.set_cons_zero]); (with_reducible exact rfl)) | (with_reducible exact rfl) | (show (_ : Array Value) = _; exact rfl)))⟩ ?_
        rintro w5 ⟨g5, C5, X5, Y5⟩
        have hz5 := g5.size
        replace cC := C5.cell
        replace fC := C5.frozen
        replace zC := C5.size
        replace cX := X5.cell
        replace fX := X5.frozen
        replace zX := X5.size
        replace cY := Y5.cell
        replace fY := Y5.frozen
        replace zY := Y5.size
        go_wp2
        go_roundw
        case rel => exact ⟨k + 1, low + x0, sum + x1, ⟨true, ur, ut⟩, by omega, by go_num, rfl, rfl, by (repeat' (first | (with_reducible (first | exact Below.refl _ _ | assumption | refine below_drewN ?_ _ | refine Below.drew ?_ | refine Below.alloc ?_ ?_ _ | refine Below.setCell ?_ ?_ _)) | go_size)), by (repeat' (first | (with_reducible (first | assumption | exact Blk.alloc_new _ _ _ (by first | rfl | (simp; done) | omega) | apply Blk.drewN | apply Blk.drew | apply Blk.alloc_old | apply Blk.set_same | apply Blk.set_other)) | (show (_ : Nat) ≠ _; first | omega | (simp; done) | (simp; omega)) | ((simp only [List.setIfInBounds_toArray, List.set_cons_succ, List.set_cons_zero]); (with_reducible exact rfl)) | (with_reducible exact rfl) | (show (_ : Array Value) = _; exact rfl))), by (repeat' (first | (with_reducible (first | assumption | exact Blk.alloc_new _ _ _ (by first | rfl | (simp; done) | omega) | apply Blk.drewN | apply Blk.drew | apply Blk.alloc_old | apply Blk.set_same | apply Blk.set_other)) | (show (_ : Nat) ≠ _; first | omega | (simp; done) | (simp; omega)) | ((simp only [List.setIfInBounds_toArray, List.set_cons_succ, List.set_cons_zero]); (with_reducible exact rfl)) | (with_reducible exact rfl) | (show (_ : Array Value) = _; exact rfl))), by omega, by omega, fun h => by omega, fun _ => ⟨rfl, HI.out.2⟩⟩
        case measure => simp [intOf]; omega
    · go_wp2_with fail
      refine (seven_true _).mono ?_
      rintro e w2 ⟨rfl, hb2⟩
      have g2 : Below w.heap.size w w2 := by refine Below.trans ?_ (hb2.mono ?_) <;> (repeat' (first | (with_reducible (first | exact Below.refl _ _ | assumption | refine below_drewN ?_ _ | refine Below.drew ?_ | refine Below.alloc ?_ ?_ _ | refine Below.setCell ?_ ?_ _)) | go_size))
      have hz2 := hb2.size
      (try simp at hz2)
      clear hb2
      go_wp2
      go_ret
      exact ⟨rfl, by (repeat' (first | (with_reducible (first | exact Below.refl _ _ | assumption | refine below_drewN ?_ _ | refine Below.drew ?_ | refine Below.alloc ?_ ?_ _ | refine Below.setCell ?_ ?_ _)) | go_size))⟩
theorem SW_out (m d n tot : Int) (a0 : Option Addr) (len cap : Nat) (w : World) (hm : 0 ≤ m ∧ m ≤ 18446744073709551615) (hd : 0 ≤ d ∧ d ≤ 18446744073709551615) (hn : 0 ≤ n ∧ n ≤ 18446744073709551615) (h : 60 < len ∨ (kd m d n == 2 || kd m d n == 3) = false ∨ 1099511627776 < tot) :
    Calls Try.prog 4 #[.agg #[.int .u64 m, .int .u64 d, .int .u64 n], .slice a0 len cap, .int .u64 tot] w fun e w' => e = .returned (.bool true) ∧ Below w.heap.size w w' := by
  by_cases a1 : 60 < len
  · have d1 : decide ((60 : Int) < (len : Int)) = true := decide_eq_true (by omega)
    go_enter Try.func4, Try.ntmps4
    go_wp2_with fail
    refine (seven_true _).mono ?_
    rintro e w1 ⟨rfl, hb1⟩
    have g1 : Below w.heap.size w w1 := by refine Below.trans ?_ (hb1.mono ?_) <;> (repeat' (first | (with_reducible (first | exact Below.refl _ _ | assumption | refine below_drewN ?_ _ | refine Below.drew ?_ | refine Below.alloc ?_ ?_ _ | refine Below.setCell ?_ ?_ _)) | go_size))
    have hz1 := hb1.size
    (try simp at hz1)
    clear hb1
    go_wp2
    go_ret
    exact ⟨rfl, by (repeat' (first | (with_reducible (first | exact Below.refl _ _ | assumption | refine below_drewN ?_ _ | refine Below.drew ?_ | refine Below.alloc ?_ ?_ _ | refine Below.setCell ?_ ?_ _)) | go_size))⟩
  have d1 : decide ((60 : Int) < (len : Int)) = false := decide_eq_false (by omega)
  rcases hR : (kd m d n == 2 || kd m d n == 3) with _ | _
  · have HR := hide hR; clear hR h
    go_enter Try.func4, Try.ntmps4
    go_wp2_with fail
    refine (rightC m d n false _ hm.1 hd.1 hn.1 HR.out).mono ?_
    rintro e w1 ⟨rfl, hb1⟩
    have C1 : Blk w1 (w.heap.size) #[.int .u64 m, .int .u64 d, .int .u64 n] 32 := Blk.below (by (repeat' (first | (with_reducible (first | assumption | exact Blk.alloc_new _ _ _ (by first | rfl | (simp; done) | omega) | apply Blk.drewN | apply Blk.drew | apply Blk.alloc_old | apply Blk.set_same | apply Blk.set_other)) | (show (_ : Nat) ≠ _; first | omega | (simp; done) | (simp; omega)) | ((simp only [List.setIfInBounds_toArray, List.set_cons_succ, List.set_cons_zero]); (with_reducible exact rfl)) | (with_reducible exact rfl) | (show (_ : Array Value) = _; exact rfl)))) hb1 (by first | (simp; done) | omega | (simp; omega))
    have g1 : Below w.heap.size w w1 := by refine Below.trans ?_ (hb1.mono ?_) <;> (repeat' (first | (with_reducible (first | exact Below.refl _ _ | assumption | refine below_drewN ?_ _ | refine Below.drew ?_ | refine Below.alloc ?_ ?_ _ | refine Below.setCell ?_ ?_ _)) | go_size))
    have hz1 := hb1.size
    (try simp at hz1)
    clear hb1
    replace cC := C1.cell
    replace fC := C1.frozen
    replace zC := C1.size
    go_wp2_with fail
    refine (seven_true _).mono ?_
    rintro e w2 ⟨rfl, hb2⟩
    have g2 : Below w.heap.size w w2 := by refine Below.trans ?_ (hb2.mono ?_) <;> (repeat' (first | (with_reducible (first | exact Below.refl _ _ | assumption | refine below_drewN ?_ _ | refine Below.drew ?_ | refine Below.alloc ?_ ?_ _ | refine Below.setCell ?_ ?_ _)) | go_size))
    have hz2 := hb2.size
    (try simp at hz2)
    clear hb2
    go_wp2
    go_ret
    exact ⟨rfl, by (repeat' (first | (with_reducible (first | exact Below.refl _ _ | assumption | refine below_drewN ?_ _ | refine Below.drew ?_ | refine Below.alloc ?_ ?_ _ | refine Below.setCell ?_ ?_ _)) | go_size))⟩
  · have d2 : decide (1099511627776 < tot) = true := decide_eq_true (by rcases h with h | h | h; omega; (rw [hR] at h; cases h); exact h)
    have HR := hide hR; clear hR h
    go_enter Try.func4, Try.ntmps4
    go_wp2_with fail
    refine (rightC m d n true _ hm.1 hd.1 hn.1 HR.out).mono ?_
    rintro e w1 ⟨rfl, hb1⟩
    have C1 : Blk w1 (w.heap.size) #[.int .u64 m, .int .u64 d, .int .u64 n] 32 := Blk.below (by (repeat' (first | (with_reducible (first | assumption | exact Blk.alloc_new _ _ _ (by first | rfl | (simp; done) | omega) | apply Blk.drewN | apply Blk.drew | apply Blk.alloc_old | apply Blk.set_same | apply Blk.set_other)) | (show (_ : Nat) ≠ _; first | omega | (simp; done) | (simp; omega)) | ((simp only [List.setIfInBounds_toArray, List.set_cons_succ, List.set_cons_zero]); (with_reducible exact rfl)) | (with_reducible exact rfl) | (show (_ : Array Value) = _; exact rfl)))) hb1 (by first | (simp; done) | omega | (simp; omega))
    have g1 : Below w.heap.size w w1 := by refine Below.trans ?_ (hb1.mono ?_) <;> (repeat' (first | (with_reducible (first | exact Below.refl _ _ | assumption | refine below_drewN ?_ _ | refine Below.drew ?_ | refine Below.alloc ?_ ?_ _ | refine Below.setCell ?_ ?_ _)) | go_size))
    have hz1 := hb1.size
    (try simp at hz1)
    clear hb1
    replace cC := C1.cell
    replace fC := C1.frozen
    replace zC := C1.size
    go_wp2_with fail
    refine (seven_true _).mono ?_
    rintro e w2 ⟨rfl, hb2⟩
    have g2 : Below w.heap.size w w2 := by refine Below.trans ?_ (hb2.mono ?_) <;> (repeat' (first | (with_reducible (first | exact Below.refl _ _ | assumption | refine below_drewN ?_ _ | refine Below.drew ?_ | refine Below.alloc ?_ ?_ _ | refine Below.setCell ?_ ?_ _)) | go_size))
    have hz2 := hb2.size
    (try simp at hz2)
    clear hb2
    go_wp2
    go_ret
    exact ⟨rfl, by (repeat' (first | (with_reducible (first | exact Below.refl _ _ | assumption | refine below_drewN ?_ _ | refine Below.drew ?_ | refine Below.alloc ?_ ?_ _ | refine Below.setCell ?_ ?_ _)) | go_size))⟩
theorem ShareWakes_walk (m : Int) (hm : 0 ≤ m ∧ m ≤ 18446744073709551615) (d : Int) (hd : 0 ≤ d ∧ d ≤ 18446744073709551615) (n : Int) (hn : 0 ≤ n ∧ n ≤ 18446744073709551615) (a0 : Option Addr) (len cap : Nat) (tot : Int) (ht : 0 ≤ tot ∧ tot ≤ 18446744073709551615) (w : World) (h : Rows_u64x2 w a0 len ∧ len ≤ maxLen) :
    Calls Try.prog 4 #[.agg #[.int .u64 m, .int .u64 d, .int .u64 n], .slice a0 len cap, .int .u64 tot] w fun e w' => e = .returned (.bool true) ∧ Below w.heap.size w w' := by
  by_cases hh : 60 < len ∨ (kd m d n == 2 || kd m d n == 3) = false ∨ 1099511627776 < tot
  · exact SW_out m d n tot a0 len cap w hm hd hn hh
  · refine SW_main m d n tot a0 len cap w hm hd hn ?_ ⟨ht.1, by omega⟩ (by omega) h.1
    unfold Lin
    rcases hR : (kd m d n == 2 || kd m d n == 3) with _ | _
    · exact absurd (.inr (.inl hR)) hh
    · simpa using hR
namespace shareWakesDone
theorem own : ownKnob Try.prog.godebug = none := by kernel_rfl
theorem laidOut : laidOutB Try.prog = true := by kernel_rfl
set_option maxRecDepth 100000 in
theorem lifted (os : Os) (started : os.Started) (H : Type) (enc : TypeId × Value → H) :
    ReturnsInHanded {} Try.checked os 4 .any (Rows.shareWakesSpec.pre6 enc Try.prog Try.f4 Rows.shareWakesRow.domain false) (Rows.shareWakesSpec.post enc Try.prog Try.f4 false true false false) := by
  refine returnsInHanded_of_change (C := Try.checked) own started (by kernel_rfl) Try.func4
    (ChangeSpec.witness6 (enc := enc) (C := Try.checked) false ⟨#[], #[.agg #[.int .u64 0, .int .u64 0, .int .u64 0], .slice none 0 0, .int .u64 0], []⟩ 8 (by kernel_rfl) (by kernel_rfl) (by kernel_rfl) (by kernel_rfl)) ?_
  intro W base args ds gs before hval0 hW hcnd _
  have hval : ∀ (j : Nat) t v, Try.f4.params[j]? = some t → args[j]? = some v → Value.okWide Try.prog W .any base t v := hval0
  have hW' := hW
  obtain ⟨p, q, hA0, hV, rfl, hfz, hnd⟩ := hW
  have hA : DataW.TrodAll enc Try.prog W 0 (fun _ => true) true Try.f4.params.toList args.toList ds p := hA0
  rw [Try.params4] at hA hval
  obtain ⟨v0, vs0, d0, ds0, p0, q0, hargs, rfl, rfl, h0, r0⟩ := trodAll_cons hA
  obtain ⟨v1, vs1, d1, ds1, p1, q1, rfl, rfl, rfl, h1, r1⟩ := trodAll_cons r0
  obtain ⟨v2, vs2, d2, ds2, p2, q2, rfl, rfl, rfl, h2, r2⟩ := trodAll_cons r1
  obtain ⟨rfl, rfl, rfl⟩ := trodAll_nil r2
  obtain rfl : args = #[v0, v1, v2] := by cases args; simp_all
  obtain ⟨rfl, rfl⟩ := trodVars_none hV
  have k0 := h0
  have lt0 : ∀ x ∈ p0, x.block < W.heap.size := by obtain ⟨m, hm⟩ := k0; exact DataW.trod_lt m _ _ _ hm
  obtain ⟨x0_0, x0_1, x0_2, y0_0, y0_1, y0_2, m0, rfl, hd0, hp0, q0_0, q0_1, q0_2⟩ := Joins.open_agg3 Try.underlying32 (by kernel_rfl) (show Try.prog.cellsOf 32 = 3 by kernel_rfl) (hval 0 32 v0 rfl rfl) h0
  obtain ⟨a0_0, e0_0, _, wf0_0⟩ := DataW.trod_int Try.underlying22 q0_0
  simp at e0_0
  subst e0_0
  have b0_0 := bounds_u64 wf0_0
  obtain ⟨a0_1, e0_1, _, wf0_1⟩ := DataW.trod_int Try.underlying22 q0_1
  simp at e0_1
  subst e0_1
  have b0_1 := bounds_u64 wf0_1
  obtain ⟨a0_2, e0_2, _, wf0_2⟩ := DataW.trod_int Try.underlying22 q0_2
  simp at e0_2
  subst e0_2
  have b0_2 := bounds_u64 wf0_2
  obtain ⟨s1, len1, cap1, rfl⟩ := okWide_slice Try.underlying51 (hval 1 51 v1 rfl rfl)
  have k1 := h1
  have lt1 : ∀ x ∈ p1, x.block < W.heap.size := by obtain ⟨m, hm⟩ := k1; exact DataW.trod_lt m _ _ _ hm
  have w1 : Rows_u64x2 W s1 len1 ∧ len1 ≤ maxLen := by obtain ⟨fuel, hf⟩ := h1; exact open_u64x2s (by simpa [Value.cells] using hf)
  obtain ⟨a2, rfl, rfl, rfl, wf2⟩ := open_int Try.underlying22 (hval 2 22 v2 rfl rfl) h2
  have b2 := bounds_u64 wf2
  clear hA0 hval0
  refine (ShareWakes_walk a0_0 b0_0 a0_1 b0_1 a0_2 b0_2 s1 len1 cap1 a2 b2 W w1).mono fun e W' ⟨he, bel⟩ => ?_
  subst he
  exact ⟨_, rfl, _, _, _, [], _, [], hW', trodAll_mk1 (shut_bool Try.underlying4 _), (trodAll_cons_mk (Below.trod laidOut (by kernel_rfl) (of_decide_eq_true (by kernel_rfl)) k0 bel lt0) (trodAll_cons_mk (Below.trod laidOut (by kernel_rfl) (of_decide_eq_true (by kernel_rfl)) k1 bel lt1) (trodAll_cons_mk (shut_int Try.underlying22 wf2) trodAll_mk0))), rfl, bel.frame _, fun h => by cases h⟩
theorem over : Rows.shareWakesRow.holds Try.pinned (OpenSpec.ofChange Rows.shareWakesSpec) :=
  OpenClaim.holds_of_wide 4 Try.f4 rfl rfl rfl rfl rfl rfl rfl ⟨rfl, rfl, rfl, rfl, rfl⟩ rfl rfl rfl rfl rfl (by kernel_rfl) Try.func4 (by kernel_rfl)
    (of_decide_eq_true (by kernel_rfl)) (by unfold Func.isWrapper; first | (rw [if_pos (by decide +kernel)]; kernel_rfl) | (rw [if_neg (by decide +kernel)]; exact ⟨rfl, rfl⟩))
    (fun os started H enc _ => lifted os started H enc)
end shareWakesDone
theorem ShareWakes_holds : Rows.ShareWakesSaid := shareWakesDone.over

end Go.Proofs.Ytnkpoelljfbefaa
