/-
  The average of what was picked, event by event, in plain numbers; the walk of meter.Of. Conditions: a meter that may be, events and classes whose cells are known.
-/
import Derived.Test.YtldahcfggeebgaaMeterN
import Derived.Test.YtldahcfggeebgaaBlk
namespace Go.Proofs.Ytldahcfggeebgaa
open Go.ChangeShapes Go.WideShapes Go.ChangeAt Go.RowKit
set_option linter.unusedVariables false
set_option linter.unusedSimpArgs false
theorem eventlist3 {α : Type} {l : List α} (h : l.length = 3) : ∃ a0 a1 a2, l = [a0, a1, a2] := by
  match l, h with
  | [a0, a1, a2], _ => exact ⟨a0, a1, a2, rfl⟩
theorem eventlist4 {α : Type} {l : List α} (h : l.length = 4) : ∃ a0 a1 a2 a3, l = [a0, a1, a2, a3] := by
  match l, h with
  | [a0, a1, a2, a3], _ => exact ⟨a0, a1, a2, a3, rfl⟩
theorem eventlist7 {α : Type} {l : List α} (h : l.length = 7) : ∃ a0 a1 a2 a3 a4 a5 a6, l = [a0, a1, a2, a3, a4, a5, a6] := by
  match l, h with
  | [a0, a1, a2, a3, a4, a5, a6], _ => exact ⟨a0, a1, a2, a3, a4, a5, a6, rfl⟩
theorem eventlist12 {α : Type} {l : List α} (h : l.length = 12) : ∃ a0 a1 a2 a3 a4 a5 a6 a7 a8 a9 a10 a11, l = [a0, a1, a2, a3, a4, a5, a6, a7, a8, a9, a10, a11] := by
  match l, h with
  | [a0, a1, a2, a3, a4, a5, a6, a7, a8, a9, a10, a11], _ => exact ⟨a0, a1, a2, a3, a4, a5, a6, a7, a8, a9, a10, a11, rfl⟩
theorem cells_event {H : Type} {w : World} {base : Nat} {spare : Nat → Bool} {held : Bool} {enc : TypeId × Value → H} {fuel : Nat} {c0 c1 c2 c3 c4 c5 c6 c7 c8 c9 c10 c11 : Value} {x : DataW H × List MemPlace} (hf : DataW.trod enc Try.prog w base spare held fuel 85 [c0, c1, c2, c3, c4, c5, c6, c7, c8, c9, c10, c11] = some x) :
    ∃ (x0 : Int) (x1 : Bool) (x2 : Bool) (x3 : Int) (x4 : Int) (x5 : Int) (x6 : Int) (x7 : Int) (x8 : Int) (x9 : Int) (x10 : Int) (x11 : Int), [c0, c1, c2, c3, c4, c5, c6, c7, c8, c9, c10, c11] = [.int .i64 x0, .bool x1, .bool x2, .int .u64 x3, .int .u64 x4, .int .i64 x5, .int .u64 x6, .int .i64 x7, .int .u16 x8, .int .u16 x9, .int .u16 x10, .int .u16 x11] ∧ (-9223372036854775808 ≤ x0 ∧ x0 ≤ 9223372036854775807) ∧ (0 ≤ x3 ∧ x3 ≤ 18446744073709551615) ∧ (0 ≤ x4 ∧ x4 ≤ 18446744073709551615) ∧ (-9223372036854775808 ≤ x5 ∧ x5 ≤ 9223372036854775807) ∧ (0 ≤ x6 ∧ x6 ≤ 18446744073709551615) ∧ (-9223372036854775808 ≤ x7 ∧ x7 ≤ 9223372036854775807) ∧ (0 ≤ x8 ∧ x8 ≤ 65535) ∧ (0 ≤ x9 ∧ x9 ≤ 65535) ∧ (0 ≤ x10 ∧ x10 ≤ 65535) ∧ (0 ≤ x11 ∧ x11 ≤ 65535) := by
  have k0 : Try.prog.cellsOf 85 = 12 := by kernel_rfl
  have k1 : Try.prog.cellsOf 3 = 1 := by kernel_rfl
  have k2 : Try.prog.cellsOf 4 = 1 := by kernel_rfl
  have k3 : Try.prog.cellsOf 22 = 1 := by kernel_rfl
  have k4 : Try.prog.cellsOf 83 = 6 := by kernel_rfl
  have k5 : Try.prog.cellsOf 81 = 4 := by kernel_rfl
  have k6 : Try.prog.cellsOf 54 = 1 := by kernel_rfl
  obtain ⟨ys0, m0, _, _, _, hl0, hx0⟩ := DataW.trod_struct Try.underlying85 hf
  obtain ⟨y0_0, y0_1, y0_2, y0_3, y0_4, y0_5, y0_6, rfl⟩ := eventlist7 hl0
  have q0_0 := hx0 0 _ rfl
  have q0_1 := hx0 1 _ rfl
  have q0_2 := hx0 2 _ rfl
  have q0_3 := hx0 3 _ rfl
  have q0_4 := hx0 4 _ rfl
  have q0_5 := hx0 5 _ rfl
  have q0_6 := hx0 6 _ rfl
  simp [k1, k2, k3, k4] at q0_0 q0_1 q0_2 q0_3 q0_4 q0_5 q0_6
  obtain ⟨x0, e0, _, w0⟩ := DataW.trod_int Try.underlying3 q0_0
  obtain ⟨x1, e1, _⟩ := DataW.trod_bool Try.underlying4 q0_1
  obtain ⟨x2, e2, _⟩ := DataW.trod_bool Try.underlying4 q0_2
  obtain ⟨x3, e3, _, w3⟩ := DataW.trod_int Try.underlying22 q0_3
  obtain ⟨x4, e4, _, w4⟩ := DataW.trod_int Try.underlying22 q0_4
  obtain ⟨x5, e5, _, w5⟩ := DataW.trod_int Try.underlying3 q0_5
  obtain ⟨ys1, m1, _, _, _, hl1, hx1⟩ := DataW.trod_struct Try.underlying83 q0_6
  obtain ⟨y1_0, y1_1, y1_2, rfl⟩ := eventlist3 hl1
  have q1_0 := hx1 0 _ rfl
  have q1_1 := hx1 1 _ rfl
  have q1_2 := hx1 2 _ rfl
  simp [k1, k3, k5] at q1_0 q1_1 q1_2
  obtain ⟨x6, e6, _, w6⟩ := DataW.trod_int Try.underlying22 q1_0
  obtain ⟨x7, e7, _, w7⟩ := DataW.trod_int Try.underlying3 q1_1
  obtain ⟨ys2, m2, _, _, _, hl2, hx2⟩ := DataW.trod_array Try.underlying81 q1_2
  obtain ⟨y2_0, y2_1, y2_2, y2_3, rfl⟩ := eventlist4 hl2
  have q2_0 := hx2 0 (by simp)
  have q2_1 := hx2 1 (by simp)
  have q2_2 := hx2 2 (by simp)
  have q2_3 := hx2 3 (by simp)
  simp [k6] at q2_0 q2_1 q2_2 q2_3
  obtain ⟨x8, e8, _, w8⟩ := DataW.trod_int Try.underlying54 q2_0
  obtain ⟨x9, e9, _, w9⟩ := DataW.trod_int Try.underlying54 q2_1
  obtain ⟨x10, e10, _, w10⟩ := DataW.trod_int Try.underlying54 q2_2
  obtain ⟨x11, e11, _, w11⟩ := DataW.trod_int Try.underlying54 q2_3
  simp at e0 e1 e2 e3 e4 e5 e6 e7 e8 e9 e10 e11
  subst e0 e1 e2 e3 e4 e5 e6 e7 e8 e9 e10 e11
  exact ⟨x0, x1, x2, x3, x4, x5, x6, x7, x8, x9, x10, x11, rfl, bounds_i64 w0, bounds_u64 w3, bounds_u64 w4, bounds_i64 w5, bounds_u64 w6, bounds_i64 w7, bounds_u16 w8, bounds_u16 w9, bounds_u16 w10, bounds_u16 w11⟩
set_option maxRecDepth 100000 in
theorem open_event {H : Type} {w : World} {base : Nat} {spare : Nat → Bool} {held : Bool} {enc : TypeId × Value → H} {r : Reach} {b0 : Nat} {v : Value} {d : DataW H} {p : List MemPlace} (hv : Value.okWide Try.prog w r b0 85 v) (h : DataW.Trod enc Try.prog w base spare held 85 v d p) :
    ∃ (x0 : Int) (x1 : Bool) (x2 : Bool) (x3 : Int) (x4 : Int) (x5 : Int) (x6 : Int) (x7 : Int) (x8 : Int) (x9 : Int) (x10 : Int) (x11 : Int), v = .agg #[.int .i64 x0, .bool x1, .bool x2, .int .u64 x3, .int .u64 x4, .int .i64 x5, .int .u64 x6, .int .i64 x7, .int .u16 x8, .int .u16 x9, .int .u16 x10, .int .u16 x11] ∧ (-9223372036854775808 ≤ x0 ∧ x0 ≤ 9223372036854775807) ∧ (0 ≤ x3 ∧ x3 ≤ 18446744073709551615) ∧ (0 ≤ x4 ∧ x4 ≤ 18446744073709551615) ∧ (-9223372036854775808 ≤ x5 ∧ x5 ≤ 9223372036854775807) ∧ (0 ≤ x6 ∧ x6 ≤ 18446744073709551615) ∧ (-9223372036854775808 ≤ x7 ∧ x7 ≤ 9223372036854775807) ∧ (0 ≤ x8 ∧ x8 ≤ 65535) ∧ (0 ≤ x9 ∧ x9 ≤ 65535) ∧ (0 ≤ x10 ∧ x10 ≤ 65535) ∧ (0 ≤ x11 ∧ x11 ≤ 65535) := by
  obtain ⟨cs, rfl, hsz⟩ := okWide_struct Try.underlying85 hv
  obtain ⟨l⟩ := cs
  obtain ⟨c0, c1, c2, c3, c4, c5, c6, c7, c8, c9, c10, c11, rfl⟩ := eventlist12 (l := l) (hsz.trans (show Try.prog.cellsOf 85 = 12 by kernel_rfl))
  obtain ⟨fuel, hf⟩ := h
  obtain ⟨x0, x1, x2, x3, x4, x5, x6, x7, x8, x9, x10, x11, e, bs⟩ := cells_event (x := (d, p)) (show DataW.trod enc Try.prog w base spare held fuel 85 [c0, c1, c2, c3, c4, c5, c6, c7, c8, c9, c10, c11] = some (d, p) by simpa [Value.cells] using hf)
  simp at e
  obtain ⟨rfl, rfl, rfl, rfl, rfl, rfl, rfl, rfl, rfl, rfl, rfl, rfl⟩ := e
  exact ⟨x0, x1, x2, x3, x4, x5, x6, x7, x8, x9, x10, x11, rfl, bs⟩
/-- Structs that came in: each one's cells. -/
def Rows_event (w : World) (a : Option Addr) (len : Nat) : Prop :=
  len = 0 ∨ ∃ b off, a = some ⟨b, off, none⟩ ∧ b < w.heap.size ∧ ∀ i, i < len → ∃ (x0 : Int) (x1 : Bool) (x2 : Bool) (x3 : Int) (x4 : Int) (x5 : Int) (x6 : Int) (x7 : Int) (x8 : Int) (x9 : Int) (x10 : Int) (x11 : Int), (-9223372036854775808 ≤ x0 ∧ x0 ≤ 9223372036854775807) ∧ (0 ≤ x3 ∧ x3 ≤ 18446744073709551615) ∧ (0 ≤ x4 ∧ x4 ≤ 18446744073709551615) ∧ (-9223372036854775808 ≤ x5 ∧ x5 ≤ 9223372036854775807) ∧ (0 ≤ x6 ∧ x6 ≤ 18446744073709551615) ∧ (-9223372036854775808 ≤ x7 ∧ x7 ≤ 9223372036854775807) ∧ (0 ≤ x8 ∧ x8 ≤ 65535) ∧ (0 ≤ x9 ∧ x9 ≤ 65535) ∧ (0 ≤ x10 ∧ x10 ≤ 65535) ∧ (0 ≤ x11 ∧ x11 ≤ 65535) ∧ w.cell? ⟨b, off + i * 12, none⟩ = some (.int .i64 x0) ∧ w.cell? ⟨b, off + i * 12 + 1, none⟩ = some (.bool x1) ∧ w.cell? ⟨b, off + i * 12 + 2, none⟩ = some (.bool x2) ∧ w.cell? ⟨b, off + i * 12 + 3, none⟩ = some (.int .u64 x3) ∧ w.cell? ⟨b, off + i * 12 + 4, none⟩ = some (.int .u64 x4) ∧ w.cell? ⟨b, off + i * 12 + 5, none⟩ = some (.int .i64 x5) ∧ w.cell? ⟨b, off + i * 12 + 6, none⟩ = some (.int .u64 x6) ∧ w.cell? ⟨b, off + i * 12 + 7, none⟩ = some (.int .i64 x7) ∧ w.cell? ⟨b, off + i * 12 + 8, none⟩ = some (.int .u16 x8) ∧ w.cell? ⟨b, off + i * 12 + 9, none⟩ = some (.int .u16 x9) ∧ w.cell? ⟨b, off + i * 12 + 10, none⟩ = some (.int .u16 x10) ∧ w.cell? ⟨b, off + i * 12 + 11, none⟩ = some (.int .u16 x11)
theorem event_cell_lt {w : World} {b o : Nat} {v : Value} (h : w.cell? ⟨b, o, none⟩ = some v) : b < w.heap.size := by
  by_cases hb : b < w.heap.size
  · exact hb
  · simp [World.cell?, Array.getElem?_eq_none (show w.heap.size ≤ b by omega)] at h
theorem event_cell_add {w : World} {b off : Nat} {n j : Nat} {v : Option Value} (h : w.cell? (((⟨b, off, none⟩ : Addr).add n).add j) = v) : w.cell? ⟨b, off + n + j, none⟩ = v := by
  rw [Go.Deep.add_add] at h
  unfold Addr.add at h
  by_cases h0 : n + j = 0
  · have e1 : n = 0 := by omega
    have e2 : j = 0 := by omega
    subst e1 e2; simpa using h
  · rw [if_neg h0] at h
    rw [show off + n + j = off + (n + j) by omega]; exact h
theorem open_events {H : Type} {w : World} {base : Nat} {spare : Nat → Bool} {held : Bool} {enc : TypeId × Value → H} {s : Option Addr} {len cap fuel : Nat} {x : DataW H × List MemPlace} (h : DataW.trod enc Try.prog w base spare held fuel 46 [.slice s len cap] = some x) : Rows_event w s len ∧ len ≤ maxLen := by
  rcases Go.Deep.open_slice Try.underlying46 h with ⟨hcs, _⟩ | ⟨a, len', cap', m, n, D, Pl, hcs, hb, hl, hm, hmm, hx, hi⟩
  · simp at hcs
    obtain ⟨rfl, rfl, rfl⟩ := hcs
    exact ⟨.inl rfl, by unfold maxLen; omega⟩
  · simp at hcs
    obtain ⟨rfl, rfl, rfl⟩ := hcs
    refine ⟨?_, by omega⟩
    by_cases h0 : len = 0
    · exact .inl h0
    right
    have hlm : len ≤ m := by rw [hmm]; split <;> omega
    have kN : Try.prog.cellsOf 85 = 12 := by kernel_rfl
    rw [kN] at hi
    have hall : ∀ i, i < len → ∃ (x0 : Int) (x1 : Bool) (x2 : Bool) (x3 : Int) (x4 : Int) (x5 : Int) (x6 : Int) (x7 : Int) (x8 : Int) (x9 : Int) (x10 : Int) (x11 : Int), (-9223372036854775808 ≤ x0 ∧ x0 ≤ 9223372036854775807) ∧ (0 ≤ x3 ∧ x3 ≤ 18446744073709551615) ∧ (0 ≤ x4 ∧ x4 ≤ 18446744073709551615) ∧ (-9223372036854775808 ≤ x5 ∧ x5 ≤ 9223372036854775807) ∧ (0 ≤ x6 ∧ x6 ≤ 18446744073709551615) ∧ (-9223372036854775808 ≤ x7 ∧ x7 ≤ 9223372036854775807) ∧ (0 ≤ x8 ∧ x8 ≤ 65535) ∧ (0 ≤ x9 ∧ x9 ≤ 65535) ∧ (0 ≤ x10 ∧ x10 ≤ 65535) ∧ (0 ≤ x11 ∧ x11 ≤ 65535) ∧ ∀ j, j < 12 → w.cell? ((a.add (i * 12)).add j) = ([.int .i64 x0, .bool x1, .bool x2, .int .u64 x3, .int .u64 x4, .int .i64 x5, .int .u64 x6, .int .i64 x7, .int .u16 x8, .int .u16 x9, .int .u16 x10, .int .u16 x11] : List Value)[j]? := by
      intro i hil
      obtain ⟨cs', hc, ht⟩ := hi i (by omega)
      obtain ⟨_, hlen, hat⟩ := World.cells?_some hc
      obtain ⟨c0, c1, c2, c3, c4, c5, c6, c7, c8, c9, c10, c11, rfl⟩ := eventlist12 hlen
      obtain ⟨x0, x1, x2, x3, x4, x5, x6, x7, x8, x9, x10, x11, e, n0, n3, n4, n5, n6, n7, n8, n9, n10, n11⟩ := cells_event ht
      rw [e] at hat
      exact ⟨x0, x1, x2, x3, x4, x5, x6, x7, x8, x9, x10, x11, n0, n3, n4, n5, n6, n7, n8, n9, n10, n11, hat⟩
    obtain ⟨b, off, spot⟩ := a
    obtain ⟨_, _, _, _, _, _, _, _, _, _, _, _, _, _, _, _, _, _, _, _, _, _, hc0⟩ := hall 0 (by omega)
    have hspot : spot = none := by
      have := hc0 0 (by omega)
      simpa [Addr.add] using World.cell?_spot (by simpa [Addr.add] using this)
    subst hspot
    refine ⟨b, off, rfl, event_cell_lt (by have := event_cell_add (hc0 0 (by omega)); simpa using this), fun i hil => ?_⟩
    obtain ⟨x0, x1, x2, x3, x4, x5, x6, x7, x8, x9, x10, x11, n0, n3, n4, n5, n6, n7, n8, n9, n10, n11, hc⟩ := hall i hil
    exact ⟨x0, x1, x2, x3, x4, x5, x6, x7, x8, x9, x10, x11, n0, n3, n4, n5, n6, n7, n8, n9, n10, n11, event_cell_add (hc 0 (by omega)), event_cell_add (hc 1 (by omega)), event_cell_add (hc 2 (by omega)), event_cell_add (hc 3 (by omega)), event_cell_add (hc 4 (by omega)), event_cell_add (hc 5 (by omega)), event_cell_add (hc 6 (by omega)), event_cell_add (hc 7 (by omega)), event_cell_add (hc 8 (by omega)), event_cell_add (hc 9 (by omega)), event_cell_add (hc 10 (by omega)), event_cell_add (hc 11 (by omega))⟩
/-- What the memory holds: a Bool, a number. -/
def boolOf (v : Value) : Bool := match v with | .bool b => b | _ => false
/-- An event: is it passed over, its tick, its bytes. -/
def evE (w : World) (b off : Nat) (zs : List Int) (i : Nat) : Bool × Int × Int :=
  (boolOf ((w.cell? ⟨b, off + i * 12 + 1, none⟩).getD undef) || !decide (intOf ((w.cell? ⟨b, off + i * 12 + 5, none⟩).getD undef) ∈ zs),
   intOf ((w.cell? ⟨b, off + i * 12 + 3, none⟩).getD undef), intOf ((w.cell? ⟨b, off + i * 12 + 7, none⟩).getD undef))
/-- The average of what was picked, event by event. -/
def ofRun (wd s : Int) (E : Nat → Bool × Int × Int) : Nat → Nat → Int → Int → Int → Int → Int × Int
  | 0, k, a, n, o, t => if t / wd < n ∨ 4611686018427387904 < t then (0, 27) else (mavg s a o n (t / wd), 0)
  | r + 1, k, a, n, o, t =>
    if (E k).1 = true then ofRun wd s E r (k + 1) a n o (E k).2.1
    else if (E k).2.2 < 0 then (0, 26)
    else if (E k).2.1 / wd < n ∨ 4611686018427387904 < (E k).2.1 then (0, 27)
    else ofRun wd s E r (k + 1) (mavg s a o n ((E k).2.1 / wd)) ((E k).2.1 / wd) (min (mopen o n ((E k).2.1 / wd) + (E k).2.2) 1099511627776) (E k).2.1
section
variable {wd s a n o t V X : Int} {E : Nat → Bool × Int × Int} {len k : Nat}
theorem ofRun_left (hlt : k < len) : len - k = (len - (k + 1)) + 1 := by omega
theorem ofRun_skip {at_ ln : Int} (hlt : k < len) (he : E k = (true, at_, ln)) (h : ofRun wd s E (len - k) k a n o t = (V, X)) : ofRun wd s E (len - (k + 1)) (k + 1) a n o at_ = (V, X) := by
  rw [ofRun_left hlt] at h
  unfold ofRun at h
  simpa [he] using h
theorem ofRun_len {at_ ln : Int} (hlt : k < len) (he : E k = (false, at_, ln)) (hl : ln < 0) (h : ofRun wd s E (len - k) k a n o t = (V, X)) : V = 0 ∧ X = 26 := by
  rw [ofRun_left hlt] at h
  unfold ofRun at h
  simp [he, hl] at h
  exact ⟨h.1.symm, h.2.symm⟩
theorem ofRun_bad {at_ ln tw : Int} (hlt : k < len) (he : E k = (false, at_, ln)) (ht : at_ / wd = tw) (hl : ¬ ln < 0) (hb : tw < n ∨ 4611686018427387904 < at_) (h : ofRun wd s E (len - k) k a n o t = (V, X)) : V = 0 ∧ X = 27 := by
  subst ht
  rw [ofRun_left hlt] at h
  unfold ofRun at h
  simp only [he] at h
  rw [if_neg (by decide), if_neg hl, if_pos hb] at h
  simp at h
  exact ⟨h.1.symm, h.2.symm⟩
theorem ofRun_ok {at_ ln tw q : Int} (hlt : k < len) (he : E k = (false, at_, ln)) (ht : at_ / wd = tw) (hl : ¬ ln < 0) (hb : ¬ (tw < n ∨ 4611686018427387904 < at_)) (hq : min (mopen o n tw + ln) 1099511627776 = q) (h : ofRun wd s E (len - k) k a n o t = (V, X)) :
    ofRun wd s E (len - (k + 1)) (k + 1) (mavg s a o n tw) tw q at_ = (V, X) := by
  subst ht hq
  rw [ofRun_left hlt] at h
  unfold ofRun at h
  simp only [he] at h
  rw [if_neg (by decide), if_neg hl, if_neg hb] at h
  exact h
theorem ofRun_end_bad {tw : Int} (hlt : ¬ k < len) (ht : t / wd = tw) (hb : tw < n ∨ 4611686018427387904 < t) (h : ofRun wd s E (len - k) k a n o t = (V, X)) : V = 0 ∧ X = 27 := by
  subst ht
  rw [show len - k = 0 by omega] at h
  unfold ofRun at h
  rw [if_pos hb] at h
  simp at h
  exact ⟨h.1.symm, h.2.symm⟩
theorem ofRun_end {tw : Int} (hlt : ¬ k < len) (ht : t / wd = tw) (hb : ¬ (tw < n ∨ 4611686018427387904 < t)) (h : ofRun wd s E (len - k) k a n o t = (V, X)) : V = mavg s a o n tw ∧ X = 0 := by
  subst ht
  rw [show len - k = 0 by omega] at h
  unfold ofRun at h
  rw [if_neg hb] at h
  simp at h
  exact ⟨h.1.symm, h.2.symm⟩
end
def ORel (wd s : Int) (E : Nat → Bool × Int × Int) (V X : Int) (len : Nat) (w : World) (t i : Value) (wr : World) : Prop := ∃ (k : Nat) (a n o t0 : Int), k ≤ len ∧ i = .int .i64 k ∧ t = .int .u64 t0 ∧ Below w.heap.size w wr ∧ Blk wr w.heap.size #[.int .u64 (wd), .int .u64 (s), .int .u64 (a), .int .u64 (n), .int .u64 (o)] 77 ∧ MIn a n o ∧ (0 ≤ t0 ∧ t0 ≤ 18446744073709551615) ∧ Hid (ofRun wd s E (len - k) k a n o t0 = (V, X))
set_option maxRecDepth 100000 in
set_option maxHeartbeats 4000000 in
theorem mOf (a0 : Option Addr) (len cap : Nat) (a1 : Option Addr) (ln1 cap1 : Nat) (zs : List Int) (wd s : Int) (E : Nat → Bool × Int × Int) (V X : Int) (w : World) (h1 : 1 ≤ wd ∧ wd ≤ 4294967296) (h2 : 0 ≤ s ∧ s ≤ 8) (hl : len ≤ 200) (hr : Rows_event w a0 len) (hz : RowI w a1 ln1 zs) (hm1 : ln1 ≤ maxLen)
    (hE0 : Hid (∀ k, k < len → ∀ b off, a0 = some ⟨b, off, none⟩ → ∀ x1 x3 x5 x7, w.cell? ⟨b, off + k * 12 + 1, none⟩ = some (.bool x1) → w.cell? ⟨b, off + k * 12 + 3, none⟩ = some (.int .u64 x3) → w.cell? ⟨b, off + k * 12 + 5, none⟩ = some (.int .i64 x5) → w.cell? ⟨b, off + k * 12 + 7, none⟩ = some (.int .i64 x7) → E k = (x1 || !decide (x5 ∈ zs), x3, x7)))
    (hof0 : Hid (ofRun wd s E len 0 0 0 0 0 = (V, X))) :
    Calls Try.prog 21 #[.slice a0 len cap, .slice a1 ln1 cap1, .int .u64 wd, .int .i64 s] w fun e w' => e = .returned (.tuple #[.int .u64 V, .int .i64 X]) ∧ Below w.heap.size w w' := by
  have Hr := hide hr; clear hr
  have Hz := hide hz; clear hz
  go_enter Try.func21, Try.ntmps21
  go_wp2_with fail
  refine (meNew wd s _ h1 h2).mono ?_
  rintro e w1 ⟨rfl, b1, L1⟩
  go_wp2
  go_loopw [12, 26] (fun t i wr => ORel wd s E V X len w t i wr) (fun _ i _ => len - (intOf i).toNat)
  case atStart => exact ⟨0, 0, 0, 0, 0, Nat.zero_le _, rfl, rfl, by (repeat' (first | (with_reducible (first | exact Below.refl _ _ | assumption | refine below_drewN ?_ _ | refine Below.drew ?_ | refine Below.alloc ?_ ?_ _ | refine Below.setCell ?_ ?_ _)) | go_size)), by (repeat' (first | (with_reducible (first | assumption | exact Blk.alloc_new _ _ _ (by first | rfl | (simp; done) | omega) | apply Blk.drewN | apply Blk.drew | apply Blk.alloc_old | apply Blk.set_same | apply Blk.set_other)) | (show (_ : Nat) ≠ _; first | omega | (simp; done) | (simp; omega)) | ((simp only [List.setIfInBounds_toArray, List.set_cons_succ, List.set_cons_zero]); (with_reducible exact rfl)) | (with_reducible exact rfl) | (show (_ : Array Value) = _; exact rfl))), by unfold MIn; omega, by omega, hof0⟩
  case round =>
    obtain ⟨k, a, n, o, t0, hk, rfl, rfl, g0, L0, hi, ht0, hof⟩ := hrel
    have hi0 := hi
    unfold MIn at hi0
    have zL := L0.size; have cL := L0.cell; have fL := L0.frozen
    have hl0 := g0.size
    by_cases hlt : k < len
    · obtain ⟨B, off, rfl, hB, hall⟩ : ∃ b off, a0 = some ⟨b, off, none⟩ ∧ b < w.heap.size ∧ _ := by
        rcases Hr.out with h | h
        · omega
        · exact h
      obtain ⟨x0, x1, x2, x3, x4, x5, x6, x7, x8, x9, x10, x11, h0, h3, h4, h5, h6, h7, h8, h9, h10, h11, e0, e1, e2, e3, e4, e5, e6, e7, e8, e9, e10, e11⟩ := hall k hlt
      clear hall
      have hE := hide (hE0.out k hlt B off rfl x1 x3 x5 x7 e1 e3 e5 e7)
      have cc : ∀ o, wr.cell? ⟨B, o, none⟩ = w.cell? ⟨B, o, none⟩ := fun o => g0.cell (p := ⟨B, o, none⟩) hB
      rw [← cc] at e0 e1 e2 e3 e4 e5 e6 e7 e8 e9 e10 e11
      clear cc
      have hz := Hz.out.below g0
      rcases x1 with _ | _
      · obtain ⟨hb, hc⟩ : ∃ b, decide (x5 ∈ zs) = b := ⟨_, rfl⟩
        rw [hc] at hE
        rcases hb with _ | _
        · go_wp2_with fail
          refine (sContains a1 ln1 cap1 zs x5 _ (hz.below (by (repeat' (first | (with_reducible (first | exact Below.refl _ _ | assumption | refine below_drewN ?_ _ | refine Below.drew ?_ | refine Below.alloc ?_ ?_ _ | refine Below.setCell ?_ ?_ _)) | go_size)))) hm1 false hc).mono ?_
          rintro e u1 ⟨rfl, rfl⟩
          go_wp2
          go_roundw
          case rel => exact ⟨k + 1, a, n, o, x3, by omega, by go_num, rfl, by (repeat' (first | (with_reducible (first | exact Below.refl _ _ | assumption | refine below_drewN ?_ _ | refine Below.drew ?_ | refine Below.alloc ?_ ?_ _ | refine Below.setCell ?_ ?_ _)) | go_size)), by (repeat' (first | (with_reducible (first | assumption | exact Blk.alloc_new _ _ _ (by first | rfl | (simp; done) | omega) | apply Blk.drewN | apply Blk.drew | apply Blk.alloc_old | apply Blk.set_same | apply Blk.set_other)) | (show (_ : Nat) ≠ _; first | omega | (simp; done) | (simp; omega)) | ((simp only [List.setIfInBounds_toArray, List.set_cons_succ, List.set_cons_zero]); (with_reducible exact rfl)) | (with_reducible exact rfl) | (show (_ : Array Value) = _; exact rfl))), hi, h3, hide (ofRun_skip hlt hE.out hof.out)⟩
          case measure => simp [intOf]; omega
        · obtain ⟨tw, htw⟩ : ∃ x, x3 / wd = x := ⟨_, rfl⟩
          replace hE : E k = (false, x3, x7) := hE.out
          go_wp2_with fail
          refine (sContains a1 ln1 cap1 zs x5 _ (hz.below (by (repeat' (first | (with_reducible (first | exact Below.refl _ _ | assumption | refine below_drewN ?_ _ | refine Below.drew ?_ | refine Below.alloc ?_ ?_ _ | refine Below.setCell ?_ ?_ _)) | go_size)))) hm1 true hc).mono ?_
          rintro e u1 ⟨rfl, rfl⟩
          by_cases hb0 : x7 < 0
          · obtain ⟨rfl, rfl⟩ := ofRun_len hlt hE hb0 hof.out
            go_wp2_with fail
            refine (meAdd_len w.heap.size x3 x7 _ hb0).mono ?_
            rintro e w4 ⟨rfl, hb4⟩
            have L4 : Blk w4 (w.heap.size) #[.int .u64 (wd), .int .u64 (s), .int .u64 (a), .int .u64 (n), .int .u64 (o)] 77 := Blk.below (by (repeat' (first | (with_reducible (first | assumption | exact Blk.alloc_new _ _ _ (by first | rfl | (simp; done) | omega) | apply Blk.drewN | apply Blk.drew | apply Blk.alloc_old | apply Blk.set_same | apply Blk.set_other)) | (show (_ : Nat) ≠ _; first | omega | (simp; done) | (simp; omega)) | ((simp only [List.setIfInBounds_toArray, List.set_cons_succ, List.set_cons_zero]); (with_reducible exact rfl)) | (with_reducible exact rfl) | (show (_ : Array Value) = _; exact rfl)))) hb4 (by first | (simp; done) | omega | (simp; omega))
            have g4 : Below w.heap.size w w4 := by refine Below.trans ?_ (hb4.mono ?_) <;> (repeat' (first | (with_reducible (first | exact Below.refl _ _ | assumption | refine below_drewN ?_ _ | refine Below.drew ?_ | refine Below.alloc ?_ ?_ _ | refine Below.setCell ?_ ?_ _)) | go_size))
            have hz4 := hb4.size
            (try simp at hz4)
            clear hb4
            replace cL := L4.cell
            replace fL := L4.frozen
            replace zL := L4.size
            go_wp2
            go_returns
            exact ⟨rfl, by (repeat' (first | (with_reducible (first | exact Below.refl _ _ | assumption | refine below_drewN ?_ _ | refine Below.drew ?_ | refine Below.alloc ?_ ?_ _ | refine Below.setCell ?_ ?_ _)) | go_size))⟩
          by_cases hbad : tw < n ∨ 4611686018427387904 < x3
          · obtain ⟨rfl, rfl⟩ := ofRun_bad hlt hE htw hb0 hbad hof.out
            go_wp2_with fail
            refine (meAdd_bad w.heap.size wd s a n o x3 tw _ (by (repeat' (first | (with_reducible (first | assumption | exact Blk.alloc_new _ _ _ (by first | rfl | (simp; done) | omega) | apply Blk.drewN | apply Blk.drew | apply Blk.alloc_old | apply Blk.set_same | apply Blk.set_other)) | (show (_ : Nat) ≠ _; first | omega | (simp; done) | (simp; omega)) | ((simp only [List.setIfInBounds_toArray, List.set_cons_succ, List.set_cons_zero]); (with_reducible exact rfl)) | (with_reducible exact rfl) | (show (_ : Array Value) = _; exact rfl)))) h1.1 h3 htw x7 (by omega) hbad).mono ?_
            rintro e w4 ⟨rfl, hb4⟩
            have L4 : Blk w4 (w.heap.size) #[.int .u64 (wd), .int .u64 (s), .int .u64 (a), .int .u64 (n), .int .u64 (o)] 77 := Blk.below (by (repeat' (first | (with_reducible (first | assumption | exact Blk.alloc_new _ _ _ (by first | rfl | (simp; done) | omega) | apply Blk.drewN | apply Blk.drew | apply Blk.alloc_old | apply Blk.set_same | apply Blk.set_other)) | (show (_ : Nat) ≠ _; first | omega | (simp; done) | (simp; omega)) | ((simp only [List.setIfInBounds_toArray, List.set_cons_succ, List.set_cons_zero]); (with_reducible exact rfl)) | (with_reducible exact rfl) | (show (_ : Array Value) = _; exact rfl)))) hb4 (by first | (simp; done) | omega | (simp; omega))
            have g4 : Below w.heap.size w w4 := by refine Below.trans ?_ (hb4.mono ?_) <;> (repeat' (first | (with_reducible (first | exact Below.refl _ _ | assumption | refine below_drewN ?_ _ | refine Below.drew ?_ | refine Below.alloc ?_ ?_ _ | refine Below.setCell ?_ ?_ _)) | go_size))
            have hz4 := hb4.size
            (try simp at hz4)
            clear hb4
            replace cL := L4.cell
            replace fL := L4.frozen
            replace zL := L4.size
            go_wp2
            go_returns
            exact ⟨rfl, by (repeat' (first | (with_reducible (first | exact Below.refl _ _ | assumption | refine below_drewN ?_ _ | refine Below.drew ?_ | refine Below.alloc ?_ ?_ _ | refine Below.setCell ?_ ?_ _)) | go_size))⟩
          · have ht := to_rng ⟨h3.1, by omega⟩ h1.1 htw
            have hi' := hi.turn (s := s) ht x7 (by omega)
            obtain ⟨q, hq⟩ : ∃ q, min (mopen o n tw + x7) 1099511627776 = q := ⟨_, rfl⟩
            have hof' := hide (ofRun_ok hlt hE htw hb0 hbad hq hof.out)
            rw [hq] at hi'
            clear hof
            go_wp2_with fail
            refine (meAdd_ok w.heap.size wd s a n o x3 tw _ (by (repeat' (first | (with_reducible (first | assumption | exact Blk.alloc_new _ _ _ (by first | rfl | (simp; done) | omega) | apply Blk.drewN | apply Blk.drew | apply Blk.alloc_old | apply Blk.set_same | apply Blk.set_other)) | (show (_ : Nat) ≠ _; first | omega | (simp; done) | (simp; omega)) | ((simp only [List.setIfInBounds_toArray, List.set_cons_succ, List.set_cons_zero]); (with_reducible exact rfl)) | (with_reducible exact rfl) | (show (_ : Array Value) = _; exact rfl)))) h1.1 h3 htw (by omega) (by omega) (by omega) h2 hi.1 hi.2.2 x7 _ q ⟨by omega, h7.2⟩ rfl hq).mono ?_
            rintro e w6 ⟨rfl, L6, K6⟩
            have g6 : Below w.heap.size w w6 := by refine Below.trans ?_ K6.1 <;> (repeat' (first | (with_reducible (first | exact Below.refl _ _ | assumption | refine below_drewN ?_ _ | refine Below.drew ?_ | refine Below.alloc ?_ ?_ _ | refine Below.setCell ?_ ?_ _)) | go_size))
            clear K6
            go_wp2
            go_roundw
            case rel => exact ⟨k + 1, _, _, q, x3, by omega, by go_num, rfl, by (repeat' (first | (with_reducible (first | exact Below.refl _ _ | assumption | refine below_drewN ?_ _ | refine Below.drew ?_ | refine Below.alloc ?_ ?_ _ | refine Below.setCell ?_ ?_ _)) | go_size)), by (repeat' (first | (with_reducible (first | assumption | exact Blk.alloc_new _ _ _ (by first | rfl | (simp; done) | omega) | apply Blk.drewN | apply Blk.drew | apply Blk.alloc_old | apply Blk.set_same | apply Blk.set_other)) | (show (_ : Nat) ≠ _; first | omega | (simp; done) | (simp; omega)) | ((simp only [List.setIfInBounds_toArray, List.set_cons_succ, List.set_cons_zero]); (with_reducible exact rfl)) | (with_reducible exact rfl) | (show (_ : Array Value) = _; exact rfl))), hi', h3, hof'⟩
            case measure => simp [intOf]; omega
      · have hE' : E k = (true, x3, x7) := hE.out
        have Hx := hide hE'; clear hE' hE
        go_wp2
        go_roundw
        case rel => exact ⟨k + 1, a, n, o, x3, by omega, by go_num, rfl, by (repeat' (first | (with_reducible (first | exact Below.refl _ _ | assumption | refine below_drewN ?_ _ | refine Below.drew ?_ | refine Below.alloc ?_ ?_ _ | refine Below.setCell ?_ ?_ _)) | go_size)), by (repeat' (first | (with_reducible (first | assumption | exact Blk.alloc_new _ _ _ (by first | rfl | (simp; done) | omega) | apply Blk.drewN | apply Blk.drew | apply Blk.alloc_old | apply Blk.set_same | apply Blk.set_other)) | (show (_ : Nat) ≠ _; first | omega | (simp; done) | (simp; omega)) | ((simp only [List.setIfInBounds_toArray, List.set_cons_succ, List.set_cons_zero]); (with_reducible exact rfl)) | (with_reducible exact rfl) | (show (_ : Array Value) = _; exact rfl))), hi, h3, hide (ofRun_skip hlt Hx.out hof.out)⟩
        case measure => simp [intOf]; omega
    · obtain ⟨tw, htw⟩ : ∃ x, t0 / wd = x := ⟨_, rfl⟩
      by_cases hbad : tw < n ∨ 4611686018427387904 < t0
      · obtain ⟨rfl, rfl⟩ := ofRun_end_bad hlt htw hbad hof.out
        go_wp2_with fail
        refine (meAvg_bad w.heap.size wd s a n o t0 tw _ (by (repeat' (first | (with_reducible (first | assumption | exact Blk.alloc_new _ _ _ (by first | rfl | (simp; done) | omega) | apply Blk.drewN | apply Blk.drew | apply Blk.alloc_old | apply Blk.set_same | apply Blk.set_other)) | (show (_ : Nat) ≠ _; first | omega | (simp; done) | (simp; omega)) | ((simp only [List.setIfInBounds_toArray, List.set_cons_succ, List.set_cons_zero]); (with_reducible exact rfl)) | (with_reducible exact rfl) | (show (_ : Array Value) = _; exact rfl)))) h1.1 ht0 htw hbad).mono ?_
        rintro e w2 ⟨rfl, hb2⟩
        have L2 : Blk w2 (w.heap.size) #[.int .u64 (wd), .int .u64 (s), .int .u64 (a), .int .u64 (n), .int .u64 (o)] 77 := Blk.below (by (repeat' (first | (with_reducible (first | assumption | exact Blk.alloc_new _ _ _ (by first | rfl | (simp; done) | omega) | apply Blk.drewN | apply Blk.drew | apply Blk.alloc_old | apply Blk.set_same | apply Blk.set_other)) | (show (_ : Nat) ≠ _; first | omega | (simp; done) | (simp; omega)) | ((simp only [List.setIfInBounds_toArray, List.set_cons_succ, List.set_cons_zero]); (with_reducible exact rfl)) | (with_reducible exact rfl) | (show (_ : Array Value) = _; exact rfl)))) hb2 (by first | (simp; done) | omega | (simp; omega))
        have g2 : Below w.heap.size w w2 := by refine Below.trans ?_ (hb2.mono ?_) <;> (repeat' (first | (with_reducible (first | exact Below.refl _ _ | assumption | refine below_drewN ?_ _ | refine Below.drew ?_ | refine Below.alloc ?_ ?_ _ | refine Below.setCell ?_ ?_ _)) | go_size))
        have hz2 := hb2.size
        (try simp at hz2)
        clear hb2
        replace cL := L2.cell
        replace fL := L2.frozen
        replace zL := L2.size
        go_wp2
        go_returns
        exact ⟨rfl, by (repeat' (first | (with_reducible (first | exact Below.refl _ _ | assumption | refine below_drewN ?_ _ | refine Below.drew ?_ | refine Below.alloc ?_ ?_ _ | refine Below.setCell ?_ ?_ _)) | go_size))⟩
      · obtain ⟨rfl, rfl⟩ := ofRun_end hlt htw hbad hof.out
        have ht := to_rng ⟨ht0.1, by omega⟩ h1.1 htw
        go_wp2_with fail
        refine (meAvg_ok w.heap.size wd s a n o t0 tw _ (by (repeat' (first | (with_reducible (first | assumption | exact Blk.alloc_new _ _ _ (by first | rfl | (simp; done) | omega) | apply Blk.drewN | apply Blk.drew | apply Blk.alloc_old | apply Blk.set_same | apply Blk.set_other)) | (show (_ : Nat) ≠ _; first | omega | (simp; done) | (simp; omega)) | ((simp only [List.setIfInBounds_toArray, List.set_cons_succ, List.set_cons_zero]); (with_reducible exact rfl)) | (with_reducible exact rfl) | (show (_ : Array Value) = _; exact rfl)))) h1.1 ht0 htw (by omega) (by omega) (by omega) h2 hi.1 hi.2.2 _ _ rfl rfl).mono ?_
        rintro e w3 ⟨rfl, L3, K3⟩
        have g3 : Below w.heap.size w w3 := by refine Below.trans ?_ K3.1 <;> (repeat' (first | (with_reducible (first | exact Below.refl _ _ | assumption | refine below_drewN ?_ _ | refine Below.drew ?_ | refine Below.alloc ?_ ?_ _ | refine Below.setCell ?_ ?_ _)) | go_size))
        clear K3
        go_wp2
        go_returns
        exact ⟨rfl, by (repeat' (first | (with_reducible (first | exact Below.refl _ _ | assumption | refine below_drewN ?_ _ | refine Below.drew ?_ | refine Below.alloc ?_ ?_ _ | refine Below.setCell ?_ ?_ _)) | go_size))⟩
theorem mOf_bad (a0 : Option Addr) (len cap : Nat) (a1 : Option Addr) (ln1 cap1 : Nat) (wd s : Int) (w : World) (h : ¬ (1 ≤ wd ∧ wd ≤ 4294967296 ∧ 0 ≤ s ∧ s ≤ 8)) :
    Calls Try.prog 21 #[.slice a0 len cap, .slice a1 ln1 cap1, .int .u64 wd, .int .i64 s] w fun e w' => e = .returned (.tuple #[.int .u64 0, .int .i64 1]) ∧ Below w.heap.size w w' := by
  go_enter Try.func21, Try.ntmps21
  go_wp2_with fail
  refine (meNew_bad wd s _ h).mono ?_
  rintro e u1 ⟨rfl, rfl⟩
  go_wp2
  go_returns
  exact ⟨rfl, by (repeat' (first | (with_reducible (first | exact Below.refl _ _ | assumption | refine below_drewN ?_ _ | refine Below.drew ?_ | refine Below.alloc ?_ ?_ _ | refine Below.setCell ?_ ?_ _)) | go_size))⟩
end Go.Proofs.Ytldahcfggeebgaa
