/-
  CaptureSent: which frames were sent, of any capture, by any events. Conditions: none.
-/
import Derived.Test.YtljpiofpfankoaaCpR
import Derived.Test.YtljpiofpfankoaaGuarV
namespace Go.Proofs.Ytljpiofpfankoaa
open Go.RowKit Go.Sort
set_option linter.unusedVariables false
set_option linter.unusedSimpArgs false
section
open Go.ChangeShapes Go.WideShapes Go.ChangeAt Go.RowKit
set_option linter.unusedVariables false
theorem eventlist3 {α : Type} {l : List α} (h : l.length = 3) : ∃ a0 a1 a2, l = [a0, a1, a2] := by
  match l, h with
  | [a0, a1, a2], _ => exact ⟨a0, a1, a2, rfl⟩
theorem eventlist4 {α : Type} {l : List α} (h : l.length = 4) : ∃ a0 a1 a2 a3, l = [a0, a1, a2, a3] := by
  match l, h with
  | [a0, a1, a2, a3], _ => exact ⟨a0, a1, a2, a3, rfl⟩
theorem eventlist7 {α : Type} {l : List α} (h : l.length = 7) : ∃ a0 a1 a2 a3 a4 a5 a6, l = [a0, a1, a2, a3, a4, a5, a6] := by
  match l, h with
  | [a0, a1, a2, a3, a4, a5, a6], _ => exact ⟨a0, a1, a2, a3, a4, a5, a6, rfl⟩
theorem eventlist12 {α : Type} {l : List α} (h : l.length = 12) : ∃ a0 a1 a2 a3 a4 a5 a6 a7 a8 a9 a10 a11, l = [a0, a1, a2, a3, a4, a5, a6, a7, a8, a9, a10, a11] := by
  match l, h with
  | [a0, a1, a2, a3, a4, a5, a6, a7, a8, a9, a10, a11], _ => exact ⟨a0, a1, a2, a3, a4, a5, a6, a7, a8, a9, a10, a11, rfl⟩
theorem cells_event {H : Type} {w : World} {base : Nat} {spare : Nat → Bool} {held : Bool} {enc : TypeId × Value → H} {fuel : Nat} {c0 c1 c2 c3 c4 c5 c6 c7 c8 c9 c10 c11 : Value} {x : DataW H × List MemPlace} (hf : DataW.trod enc Try.prog w base spare held fuel 116 [c0, c1, c2, c3, c4, c5, c6, c7, c8, c9, c10, c11] = some x) :
    ∃ (x0 : Int) (x1 : Bool) (x2 : Bool) (x3 : Int) (x4 : Int) (x5 : Int) (x6 : Int) (x7 : Int) (x8 : Int) (x9 : Int) (x10 : Int) (x11 : Int), [c0, c1, c2, c3, c4, c5, c6, c7, c8, c9, c10, c11] = [.int .i64 x0, .bool x1, .bool x2, .int .u64 x3, .int .u64 x4, .int .i64 x5, .int .u64 x6, .int .i64 x7, .int .u16 x8, .int .u16 x9, .int .u16 x10, .int .u16 x11] ∧ (-9223372036854775808 ≤ x0 ∧ x0 ≤ 9223372036854775807) ∧ (0 ≤ x3 ∧ x3 ≤ 18446744073709551615) ∧ (0 ≤ x4 ∧ x4 ≤ 18446744073709551615) ∧ (-9223372036854775808 ≤ x5 ∧ x5 ≤ 9223372036854775807) ∧ (0 ≤ x6 ∧ x6 ≤ 18446744073709551615) ∧ (-9223372036854775808 ≤ x7 ∧ x7 ≤ 9223372036854775807) ∧ (0 ≤ x8 ∧ x8 ≤ 65535) ∧ (0 ≤ x9 ∧ x9 ≤ 65535) ∧ (0 ≤ x10 ∧ x10 ≤ 65535) ∧ (0 ≤ x11 ∧ x11 ≤ 65535) := by
  have k0 : Try.prog.cellsOf 116 = 12 := by kernel_rfl
  have k1 : Try.prog.cellsOf 3 = 1 := by kernel_rfl
  have k2 : Try.prog.cellsOf 4 = 1 := by kernel_rfl
  have k3 : Try.prog.cellsOf 43 = 1 := by kernel_rfl
  have k4 : Try.prog.cellsOf 50 = 6 := by kernel_rfl
  have k5 : Try.prog.cellsOf 48 = 4 := by kernel_rfl
  have k6 : Try.prog.cellsOf 46 = 1 := by kernel_rfl
  obtain ⟨ys0, m0, _, _, _, hl0, hx0⟩ := DataW.trod_struct Try.underlying116 hf
  obtain ⟨y0_0, y0_1, y0_2, y0_3, y0_4, y0_5, y0_6, rfl⟩ := eventlist7 hl0
  have q0_0 := hx0 0 _ rfl
  have q0_1 := hx0 1 _ rfl
  have q0_2 := hx0 2 _ rfl
  have q0_3 := hx0 3 _ rfl
  have q0_4 := hx0 4 _ rfl
  have q0_5 := hx0 5 _ rfl
  have q0_6 := hx0 6 _ rfl
  simp [k1, k2, k3, k4] at q0_0 q0_1 q0_2 q0_3 q0_4 q0_5 q0_6
  obtain ⟨x0, e0, _, w0⟩ := DataW.trod_int Try.underlying3 q0_0
  obtain ⟨x1, e1, _⟩ := DataW.trod_bool Try.underlying4 q0_1
  obtain ⟨x2, e2, _⟩ := DataW.trod_bool Try.underlying4 q0_2
  obtain ⟨x3, e3, _, w3⟩ := DataW.trod_int Try.underlying43 q0_3
  obtain ⟨x4, e4, _, w4⟩ := DataW.trod_int Try.underlying43 q0_4
  obtain ⟨x5, e5, _, w5⟩ := DataW.trod_int Try.underlying3 q0_5
  obtain ⟨ys1, m1, _, _, _, hl1, hx1⟩ := DataW.trod_struct Try.underlying50 q0_6
  obtain ⟨y1_0, y1_1, y1_2, rfl⟩ := eventlist3 hl1
  have q1_0 := hx1 0 _ rfl
  have q1_1 := hx1 1 _ rfl
  have q1_2 := hx1 2 _ rfl
  simp [k1, k3, k5] at q1_0 q1_1 q1_2
  obtain ⟨x6, e6, _, w6⟩ := DataW.trod_int Try.underlying43 q1_0
  obtain ⟨x7, e7, _, w7⟩ := DataW.trod_int Try.underlying3 q1_1
  obtain ⟨ys2, m2, _, _, _, hl2, hx2⟩ := DataW.trod_array Try.underlying48 q1_2
  obtain ⟨y2_0, y2_1, y2_2, y2_3, rfl⟩ := eventlist4 hl2
  have q2_0 := hx2 0 (by simp)
  have q2_1 := hx2 1 (by simp)
  have q2_2 := hx2 2 (by simp)
  have q2_3 := hx2 3 (by simp)
  simp [k6] at q2_0 q2_1 q2_2 q2_3
  obtain ⟨x8, e8, _, w8⟩ := DataW.trod_int Try.underlying46 q2_0
  obtain ⟨x9, e9, _, w9⟩ := DataW.trod_int Try.underlying46 q2_1
  obtain ⟨x10, e10, _, w10⟩ := DataW.trod_int Try.underlying46 q2_2
  obtain ⟨x11, e11, _, w11⟩ := DataW.trod_int Try.underlying46 q2_3
  simp at e0 e1 e2 e3 e4 e5 e6 e7 e8 e9 e10 e11
  subst e0 e1 e2 e3 e4 e5 e6 e7 e8 e9 e10 e11
  exact ⟨x0, x1, x2, x3, x4, x5, x6, x7, x8, x9, x10, x11, rfl, bounds_i64 w0, bounds_u64 w3, bounds_u64 w4, bounds_i64 w5, bounds_u64 w6, bounds_i64 w7, bounds_u16 w8, bounds_u16 w9, bounds_u16 w10, bounds_u16 w11⟩
set_option maxRecDepth 100000 in
theorem open_event {H : Type} {w : World} {base : Nat} {spare : Nat → Bool} {held : Bool} {enc : TypeId × Value → H} {r : Reach} {b0 : Nat} {v : Value} {d : DataW H} {p : List MemPlace} (hv : Value.okWide Try.prog w r b0 116 v) (h : DataW.Trod enc Try.prog w base spare held 116 v d p) :
    ∃ (x0 : Int) (x1 : Bool) (x2 : Bool) (x3 : Int) (x4 : Int) (x5 : Int) (x6 : Int) (x7 : Int) (x8 : Int) (x9 : Int) (x10 : Int) (x11 : Int), v = .agg #[.int .i64 x0, .bool x1, .bool x2, .int .u64 x3, .int .u64 x4, .int .i64 x5, .int .u64 x6, .int .i64 x7, .int .u16 x8, .int .u16 x9, .int .u16 x10, .int .u16 x11] ∧ (-9223372036854775808 ≤ x0 ∧ x0 ≤ 9223372036854775807) ∧ (0 ≤ x3 ∧ x3 ≤ 18446744073709551615) ∧ (0 ≤ x4 ∧ x4 ≤ 18446744073709551615) ∧ (-9223372036854775808 ≤ x5 ∧ x5 ≤ 9223372036854775807) ∧ (0 ≤ x6 ∧ x6 ≤ 18446744073709551615) ∧ (-9223372036854775808 ≤ x7 ∧ x7 ≤ 9223372036854775807) ∧ (0 ≤ x8 ∧ x8 ≤ 65535) ∧ (0 ≤ x9 ∧ x9 ≤ 65535) ∧ (0 ≤ x10 ∧ x10 ≤ 65535) ∧ (0 ≤ x11 ∧ x11 ≤ 65535) := by
  obtain ⟨cs, rfl, hsz⟩ := okWide_struct Try.underlying116 hv
  obtain ⟨l⟩ := cs
  obtain ⟨c0, c1, c2, c3, c4, c5, c6, c7, c8, c9, c10, c11, rfl⟩ := eventlist12 (l := l) (hsz.trans (show Try.prog.cellsOf 116 = 12 by kernel_rfl))
  obtain ⟨fuel, hf⟩ := h
  obtain ⟨x0, x1, x2, x3, x4, x5, x6, x7, x8, x9, x10, x11, e, bs⟩ := cells_event (x := (d, p)) (show DataW.trod enc Try.prog w base spare held fuel 116 [c0, c1, c2, c3, c4, c5, c6, c7, c8, c9, c10, c11] = some (d, p) by simpa [Value.cells] using hf)
  simp at e
  obtain ⟨rfl, rfl, rfl, rfl, rfl, rfl, rfl, rfl, rfl, rfl, rfl, rfl⟩ := e
  exact ⟨x0, x1, x2, x3, x4, x5, x6, x7, x8, x9, x10, x11, rfl, bs⟩
/-- Structs that came in: each one's cells. -/
def Rows_event (w : World) (a : Option Addr) (len : Nat) : Prop :=
  len = 0 ∨ ∃ b off, a = some ⟨b, off, none⟩ ∧ b < w.heap.size ∧ ∀ i, i < len → ∃ (x0 : Int) (x1 : Bool) (x2 : Bool) (x3 : Int) (x4 : Int) (x5 : Int) (x6 : Int) (x7 : Int) (x8 : Int) (x9 : Int) (x10 : Int) (x11 : Int), (-9223372036854775808 ≤ x0 ∧ x0 ≤ 9223372036854775807) ∧ (0 ≤ x3 ∧ x3 ≤ 18446744073709551615) ∧ (0 ≤ x4 ∧ x4 ≤ 18446744073709551615) ∧ (-9223372036854775808 ≤ x5 ∧ x5 ≤ 9223372036854775807) ∧ (0 ≤ x6 ∧ x6 ≤ 18446744073709551615) ∧ (-9223372036854775808 ≤ x7 ∧ x7 ≤ 9223372036854775807) ∧ (0 ≤ x8 ∧ x8 ≤ 65535) ∧ (0 ≤ x9 ∧ x9 ≤ 65535) ∧ (0 ≤ x10 ∧ x10 ≤ 65535) ∧ (0 ≤ x11 ∧ x11 ≤ 65535) ∧ w.cell? ⟨b, off + i * 12, none⟩ = some (.int .i64 x0) ∧ w.cell? ⟨b, off + i * 12 + 1, none⟩ = some (.bool x1) ∧ w.cell? ⟨b, off + i * 12 + 2, none⟩ = some (.bool x2) ∧ w.cell? ⟨b, off + i * 12 + 3, none⟩ = some (.int .u64 x3) ∧ w.cell? ⟨b, off + i * 12 + 4, none⟩ = some (.int .u64 x4) ∧ w.cell? ⟨b, off + i * 12 + 5, none⟩ = some (.int .i64 x5) ∧ w.cell? ⟨b, off + i * 12 + 6, none⟩ = some (.int .u64 x6) ∧ w.cell? ⟨b, off + i * 12 + 7, none⟩ = some (.int .i64 x7) ∧ w.cell? ⟨b, off + i * 12 + 8, none⟩ = some (.int .u16 x8) ∧ w.cell? ⟨b, off + i * 12 + 9, none⟩ = some (.int .u16 x9) ∧ w.cell? ⟨b, off + i * 12 + 10, none⟩ = some (.int .u16 x10) ∧ w.cell? ⟨b, off + i * 12 + 11, none⟩ = some (.int .u16 x11)
theorem event_cell_lt {w : World} {b o : Nat} {v : Value} (h : w.cell? ⟨b, o, none⟩ = some v) : b < w.heap.size := by
  by_cases hb : b < w.heap.size
  · exact hb
  · simp [World.cell?, Array.getElem?_eq_none (show w.heap.size ≤ b by omega)] at h
theorem event_cell_add {w : World} {b off : Nat} {n j : Nat} {v : Option Value} (h : w.cell? (((⟨b, off, none⟩ : Addr).add n).add j) = v) : w.cell? ⟨b, off + n + j, none⟩ = v := by
  rw [Go.Deep.add_add] at h
  unfold Addr.add at h
  by_cases h0 : n + j = 0
  · have e1 : n = 0 := by omega
    have e2 : j = 0 := by omega
    subst e1 e2; simpa using h
  · rw [if_neg h0] at h
    rw [show off + n + j = off + (n + j) by omega]; exact h
theorem open_events {H : Type} {w : World} {base : Nat} {spare : Nat → Bool} {held : Bool} {enc : TypeId × Value → H} {s : Option Addr} {len cap fuel : Nat} {x : DataW H × List MemPlace} (h : DataW.trod enc Try.prog w base spare held fuel 57 [.slice s len cap] = some x) : Rows_event w s len ∧ len ≤ maxLen := by
  rcases Go.Deep.open_slice Try.underlying57 h with ⟨hcs, _⟩ | ⟨a, len', cap', m, n, D, Pl, hcs, hb, hl, hm, hmm, hx, hi⟩
  · simp at hcs
    obtain ⟨rfl, rfl, rfl⟩ := hcs
    exact ⟨.inl rfl, by unfold maxLen; omega⟩
  · simp at hcs
    obtain ⟨rfl, rfl, rfl⟩ := hcs
    refine ⟨?_, by omega⟩
    by_cases h0 : len = 0
    · exact .inl h0
    right
    have hlm : len ≤ m := by rw [hmm]; split <;> omega
    have kN : Try.prog.cellsOf 116 = 12 := by kernel_rfl
    rw [kN] at hi
    have hall : ∀ i, i < len → ∃ (x0 : Int) (x1 : Bool) (x2 : Bool) (x3 : Int) (x4 : Int) (x5 : Int) (x6 : Int) (x7 : Int) (x8 : Int) (x9 : Int) (x10 : Int) (x11 : Int), (-9223372036854775808 ≤ x0 ∧ x0 ≤ 9223372036854775807) ∧ (0 ≤ x3 ∧ x3 ≤ 18446744073709551615) ∧ (0 ≤ x4 ∧ x4 ≤ 18446744073709551615) ∧ (-9223372036854775808 ≤ x5 ∧ x5 ≤ 9223372036854775807) ∧ (0 ≤ x6 ∧ x6 ≤ 18446744073709551615) ∧ (-9223372036854775808 ≤ x7 ∧ x7 ≤ 9223372036854775807) ∧ (0 ≤ x8 ∧ x8 ≤ 65535) ∧ (0 ≤ x9 ∧ x9 ≤ 65535) ∧ (0 ≤ x10 ∧ x10 ≤ 65535) ∧ (0 ≤ x11 ∧ x11 ≤ 65535) ∧ ∀ j, j < 12 → w.cell? ((a.add (i * 12)).add j) = ([.int .i64 x0, .bool x1, .bool x2, .int .u64 x3, .int .u64 x4, .int .i64 x5, .int .u64 x6, .int .i64 x7, .int .u16 x8, .int .u16 x9, .int .u16 x10, .int .u16 x11] : List Value)[j]? := by
      intro i hil
      obtain ⟨cs', hc, ht⟩ := hi i (by omega)
      obtain ⟨_, hlen, hat⟩ := World.cells?_some hc
      obtain ⟨c0, c1, c2, c3, c4, c5, c6, c7, c8, c9, c10, c11, rfl⟩ := eventlist12 hlen
      obtain ⟨x0, x1, x2, x3, x4, x5, x6, x7, x8, x9, x10, x11, e, n0, n3, n4, n5, n6, n7, n8, n9, n10, n11⟩ := cells_event ht
      rw [e] at hat
      exact ⟨x0, x1, x2, x3, x4, x5, x6, x7, x8, x9, x10, x11, n0, n3, n4, n5, n6, n7, n8, n9, n10, n11, hat⟩
    obtain ⟨b, off, spot⟩ := a
    obtain ⟨_, _, _, _, _, _, _, _, _, _, _, _, _, _, _, _, _, _, _, _, _, _, hc0⟩ := hall 0 (by omega)
    have hspot : spot = none := by
      have := hc0 0 (by omega)
      simpa [Addr.add] using World.cell?_spot (by simpa [Addr.add] using this)
    subst hspot
    refine ⟨b, off, rfl, event_cell_lt (by have := event_cell_add (hc0 0 (by omega)); simpa using this), fun i hil => ?_⟩
    obtain ⟨x0, x1, x2, x3, x4, x5, x6, x7, x8, x9, x10, x11, n0, n3, n4, n5, n6, n7, n8, n9, n10, n11, hc⟩ := hall i hil
    exact ⟨x0, x1, x2, x3, x4, x5, x6, x7, x8, x9, x10, x11, n0, n3, n4, n5, n6, n7, n8, n9, n10, n11, event_cell_add (hc 0 (by omega)), event_cell_add (hc 1 (by omega)), event_cell_add (hc 2 (by omega)), event_cell_add (hc 3 (by omega)), event_cell_add (hc 4 (by omega)), event_cell_add (hc 5 (by omega)), event_cell_add (hc 6 (by omega)), event_cell_add (hc 7 (by omega)), event_cell_add (hc 8 (by omega)), event_cell_add (hc 9 (by omega)), event_cell_add (hc 10 (by omega)), event_cell_add (hc 11 (by omega))⟩
end
theorem HoldRf.ne_blk {w : World} {base : Nat} {v : Value} {l : List FM} {B : Nat} {cs : Array Value} {t : TypeId} (h : HoldRf w base v l) (hB : Blk w B cs t) (ht : t ≠ 100) : some B ≠ v.ownBlock := by
  intro e
  rcases h.2 with ⟨hv, _⟩ | ⟨g, cap, cur, hv, _, hh, _⟩
  · rw [hv] at e; cases e
  · rw [hv] at e
    cases e
    unfold Blk at hB
    rw [hh] at hB
    cases hB
    exact ht rfl
/-- An event. -/
structure EV where
  (op : Int)
  (inn rl : Bool)
  (at_ dn cls : Int)
  (id : Nat)
  (len h0 h1 h2 h3 : Int)
def evVs (e : EV) : List Value := [.int .i64 e.op, .bool e.inn, .bool e.rl, .int .u64 e.at_, .int .u64 e.dn, .int .i64 e.cls, .int .u64 e.id, .int .i64 e.len, .int .u16 e.h0, .int .u16 e.h1, .int .u16 e.h2, .int .u16 e.h3]
theorem evVs_len (e : EV) : (evVs e).length = 12 := rfl
def Events (w : World) (a : Option Addr) (E : List EV) : Prop := (E ≠ [] → ∃ b off, a = some ⟨b, off, none⟩ ∧ b < w.heap.size ∧ AtG 12 evVs w b off E) ∧ ∀ e ∈ E, (0 ≤ e.dn ∧ e.dn ≤ 18446744073709551615) ∧ e.id ≤ 18446744073709551615
theorem Events.at {w : World} {a : Option Addr} {E : List EV} (h : Events w a E) : ∃ b off, (E ≠ [] → a = some ⟨b, off, none⟩) ∧ (E ≠ [] → b < w.heap.size) ∧ AtG 12 evVs w b off E := by
  by_cases h0 : E = []
  · subst h0
    exact ⟨0, 0, fun h => absurd rfl h, fun h => absurd rfl h, fun i f hf => by simp at hf⟩
  · obtain ⟨b, off, h1, h2, h3⟩ := h.1 h0
    exact ⟨b, off, fun _ => h1, fun _ => h2, h3⟩
theorem Events.later {w v : World} {a : Option Addr} {E : List EV} (hF : Events w a E) (hv : Below w.heap.size w v) : Events v a E := by
  refine ⟨fun h => ?_, hF.2⟩
  obtain ⟨b, off, h1, h2, h3⟩ := hF.1 h
  exact ⟨b, off, h1, Nat.lt_of_lt_of_le h2 hv.size, h3.below hv h2⟩
theorem events_of {w : World} {a : Option Addr} {len : Nat} (h : Rows_event w a len) : ∃ E : List EV, E.length = len ∧ Events w a E := by
  rcases h with rfl | ⟨b, off, rfl, hb, hi⟩
  · exact ⟨[], rfl, fun h => absurd rfl h, fun e he => absurd he (by simp)⟩
  · have key : ∀ i, ∃ e : EV, i < len → (((0 ≤ e.dn ∧ e.dn ≤ 18446744073709551615) ∧ e.id ≤ 18446744073709551615) ∧ ∀ j u, (evVs e)[j]? = some u → w.cell? ⟨b, off + i * 12 + j, none⟩ = some u) := by
      intro i
      by_cases hil : i < len
      · obtain ⟨x0, x1, x2, x3, x4, x5, x6, x7, x8, x9, x10, x11, b0, b3, b4, b5, b6, b7, b8, b9, b10, b11, c0, c1, c2, c3, c4, c5, c6, c7, c8, c9, c10, c11⟩ := hi i hil
        refine ⟨⟨x0, x1, x2, x3, x4, x5, x6.toNat, x7, x8, x9, x10, x11⟩, fun _ => ⟨⟨b4, by show x6.toNat ≤ _; omega⟩, fun j u hj => ?_⟩⟩
        have e6 : ((x6.toNat : Nat) : Int) = x6 := Int.toNat_of_nonneg b6.1
        have hj' := (List.getElem?_eq_some_iff.1 hj).1
        rw [evVs_len] at hj'
        match j, hj' with
        | 0, _ => cases hj; exact c0
        | 1, _ => cases hj; exact c1
        | 2, _ => cases hj; exact c2
        | 3, _ => cases hj; exact c3
        | 4, _ => cases hj; exact c4
        | 5, _ => cases hj; exact c5
        | 6, _ =>
          have : (Value.int .u64 ((x6.toNat : Nat) : Int)) = u := by simpa [evVs] using hj
          rw [← this, e6]; exact c6
        | 7, _ => cases hj; exact c7
        | 8, _ => cases hj; exact c8
        | 9, _ => cases hj; exact c9
        | 10, _ => cases hj; exact c10
        | 11, _ => cases hj; exact c11
        | j + 12, h => exact absurd h (by omega)
      · exact ⟨⟨0, false, false, 0, 0, 0, 0, 0, 0, 0, 0, 0⟩, fun h => absurd h hil⟩
    let g := fun i => Classical.choose (key i)
    have hg : ∀ i, i < len → (((0 ≤ (g i).dn ∧ (g i).dn ≤ 18446744073709551615) ∧ (g i).id ≤ 18446744073709551615) ∧ ∀ j u, (evVs (g i))[j]? = some u → w.cell? ⟨b, off + i * 12 + j, none⟩ = some u) := fun i => Classical.choose_spec (key i)
    clear_value g
    refine ⟨(List.range len).map g, by simp, fun hne => ⟨b, off, rfl, hb, fun i f hf => ?_⟩, fun f hf => ?_⟩
    · have hil : i < len := by have := (List.getElem?_eq_some_iff.1 hf).1; simpa using this
      have : f = g i := by simpa [hil] using hf.symm
      subst this
      exact (hg i hil).2
    · obtain ⟨i, hi, rfl⟩ := List.mem_map.1 hf
      exact (hg i (by simpa using hi)).1
/-- The frames that one event sent. -/
def one1 (e : EV) (L : List FM) : List FM := if e.inn = true then [] else match L[e.id]? with | some f => [⟨e.dn, f.d⟩] | none => []
def sentL (L : List FM) : List EV → List FM
  | [] => []
  | e :: r => one1 e L ++ sentL L r
theorem one1_len (e : EV) (L : List FM) : (one1 e L).length ≤ 1 := by unfold one1; split; simp; split <;> simp
theorem sentL_len (L : List FM) : ∀ E : List EV, (sentL L E).length ≤ E.length
  | [] => by simp [sentL]
  | e :: r => by unfold sentL; rw [List.length_append, List.length_cons]; have := one1_len e L; have := sentL_len L r; omega
theorem one1_yes {e : EV} {L : List FM} {f : FM} (h1 : e.inn = false) (h2 : L[e.id]? = some f) : one1 e L = [⟨e.dn, f.d⟩] := by unfold one1; rw [h1, h2]; rfl
theorem one1_in {e : EV} {L : List FM} (h1 : e.inn = true) : one1 e L = [] := by unfold one1; rw [if_pos h1]
theorem one1_no {e : EV} {L : List FM} (h2 : L.length ≤ e.id) : one1 e L = [] := by unfold one1; rw [List.getElem?_eq_none h2]; split <;> rfl
theorem one1_take {e : EV} {L : List FM} {m : Nat} (h : e.id ≠ m) : one1 e (L.take (m + 1)) = one1 e (L.take m) := by
  have : (L.take (m + 1))[e.id]? = (L.take m)[e.id]? := by
    rcases Nat.lt_or_ge e.id m with h' | h'
    · rw [List.getElem?_take_of_lt (by omega), List.getElem?_take_of_lt h']
    · rw [List.getElem?_eq_none (by rw [List.length_take]; omega), List.getElem?_eq_none (by rw [List.length_take]; omega)]
  unfold one1; rw [this]
set_option maxRecDepth 100000 in
set_option maxHeartbeats 8000000 in
theorem capSent (L : List FM) (E : List EV) (a a' : Option Addr) (b off b' off' cap cap' : Nat) (w : World) (ha : L ≠ [] → a = some ⟨b, off, none⟩) (hb : L ≠ [] → b < w.heap.size) (hL : FmAt w b off L) (ha' : E ≠ [] → a' = some ⟨b', off', none⟩) (hb' : E ≠ [] → b' < w.heap.size) (hE : AtG 12 evVs w b' off' E) (hid : ∀ e ∈ E, (0 ≤ e.dn ∧ e.dn ≤ 18446744073709551615) ∧ e.id ≤ 18446744073709551615) (hn : L.length ≤ 100) (hn' : E.length ≤ 200) (hcap : L.length ≤ cap) (hcap' : E.length ≤ cap') :
    Calls Try.prog 24 #[.slice a L.length cap, .slice a' E.length cap'] w fun x w' => ∃ v, x = .returned v ∧ HoldFr w' w.heap.size v (sentL L E) ∧ Below w.heap.size w w' := by
  obtain ⟨S, hS⟩ : ∃ S, sentL L E = S := ⟨_, rfl⟩
  rw [hS]
  have HS := hide hS; clear hS
  have hwl : IntKind.u64.wrap (L.length : Int) = (L.length : Int) := IntWalk.u64_in _ ⟨by omega, by omega⟩
  go_enter Try.func24, Try.ntmps24
  go_wp2
  go_loopw [5, 10] (fun o i wr => ∃ (k : Nat) (out : List FM), k ≤ E.length ∧ i = .int .i64 k ∧ out.length ≤ k ∧ HoldFr wr w.heap.size o out ∧ Below w.heap.size w wr ∧ Hid (out ++ sentL L (E.drop k) = S)) (fun _ i _ => E.length - (intOf i).toNat)
  case atStart => exact ⟨0, [], Nat.zero_le _, rfl, by simp, HoldFr.nil _ _, by (repeat' (first | (with_reducible (first | exact Below.refl _ _ | assumption | refine below_drewN ?_ _ | refine Below.drew ?_ | refine Below.alloc ?_ ?_ _ | refine Below.setCell ?_ ?_ _)) | go_size)), hide (by simpa using HS.out)⟩
  case round =>
    obtain ⟨k, out, hk, rfl, hol, H0, g0, hss⟩ := hrel
    have hl0 := g0.size
    by_cases hlt : k < E.length
    · obtain ⟨e, he⟩ : ∃ e, E[k]? = some e := ⟨_, List.getElem?_eq_getElem hlt⟩
      have hdk : E.drop k = e :: E.drop (k + 1) := by
        obtain ⟨hk', e⟩ := List.getElem?_eq_some_iff.1 he
        rw [List.drop_eq_getElem_cons hk', e]
      have hne' : E ≠ [] := by intro e; rw [e] at hlt; simp at hlt
      have hbw' := hb' hne'
      obtain rfl := ha' hne'
      have hs1 := hss.out
      rw [hdk] at hs1
      have hs2 : (out ++ one1 e L) ++ sentL L (E.drop (k + 1)) = S := by rw [List.append_assoc]; exact hs1
      have hki : (k : Int) < (E.length : Int) := by omega
      have hkb : (k : Int) ≤ 200 := by omega
      obtain ⟨hdn, hei⟩ := hid e (List.mem_of_getElem? he)
      have y0 : wr.cell? ⟨b', off' + k * 12, none⟩ = some (.int .i64 e.op) := (hE.below g0 hbw') k e he 0 _ rfl
      have y1 : wr.cell? ⟨b', off' + k * 12 + 1, none⟩ = some (.bool e.inn) := (hE.below g0 hbw') k e he 1 _ rfl
      have y2 : wr.cell? ⟨b', off' + k * 12 + 2, none⟩ = some (.bool e.rl) := (hE.below g0 hbw') k e he 2 _ rfl
      have y3 : wr.cell? ⟨b', off' + k * 12 + 3, none⟩ = some (.int .u64 e.at_) := (hE.below g0 hbw') k e he 3 _ rfl
      have y4 : wr.cell? ⟨b', off' + k * 12 + 4, none⟩ = some (.int .u64 e.dn) := (hE.below g0 hbw') k e he 4 _ rfl
      have y5 : wr.cell? ⟨b', off' + k * 12 + 5, none⟩ = some (.int .i64 e.cls) := (hE.below g0 hbw') k e he 5 _ rfl
      have y6 : wr.cell? ⟨b', off' + k * 12 + 6, none⟩ = some (.int .u64 e.id) := (hE.below g0 hbw') k e he 6 _ rfl
      have y7 : wr.cell? ⟨b', off' + k * 12 + 7, none⟩ = some (.int .i64 e.len) := (hE.below g0 hbw') k e he 7 _ rfl
      have y8 : wr.cell? ⟨b', off' + k * 12 + 8, none⟩ = some (.int .u16 e.h0) := (hE.below g0 hbw') k e he 8 _ rfl
      have y9 : wr.cell? ⟨b', off' + k * 12 + 9, none⟩ = some (.int .u16 e.h1) := (hE.below g0 hbw') k e he 9 _ rfl
      have y10 : wr.cell? ⟨b', off' + k * 12 + 10, none⟩ = some (.int .u16 e.h2) := (hE.below g0 hbw') k e he 10 _ rfl
      have y11 : wr.cell? ⟨b', off' + k * 12 + 11, none⟩ = some (.int .u16 e.h3) := (hE.below g0 hbw') k e he 11 _ rfl
      clear hss hs1 hdk
      obtain ⟨oa, oc, rfl⟩ := H0.slice
      by_cases c1 : e.inn = true
      · rw [one1_in c1, List.append_nil] at hs2
        go_wp2
        go_roundw
        case rel => exact ⟨k + 1, out, by omega, by go_num, by omega, H0.below (by (repeat' (first | (with_reducible (first | exact Below.refl _ _ | assumption | refine below_drewN ?_ _ | refine Below.drew ?_ | refine Below.alloc ?_ ?_ _ | refine Below.setCell ?_ ?_ _)) | go_size))), by (repeat' (first | (with_reducible (first | exact Below.refl _ _ | assumption | refine below_drewN ?_ _ | refine Below.drew ?_ | refine Below.alloc ?_ ?_ _ | refine Below.setCell ?_ ?_ _)) | go_size)), hide hs2⟩
        case measure => simp [intOf]; omega
      have c1' : e.inn = false := by cases h : e.inn with | true => exact absurd h c1 | false => rfl
      by_cases c2 : L.length ≤ e.id
      · rw [one1_no c2, List.append_nil] at hs2
        have d1 : decide ((e.id : Int) < (L.length : Int)) = false := decide_eq_false (by omega)
        have d1n : decide (e.id < L.length) = false := decide_eq_false (by omega)
        go_wp2
        go_roundw
        case rel => exact ⟨k + 1, out, by omega, by go_num, by omega, H0.below (by (repeat' (first | (with_reducible (first | exact Below.refl _ _ | assumption | refine below_drewN ?_ _ | refine Below.drew ?_ | refine Below.alloc ?_ ?_ _ | refine Below.setCell ?_ ?_ _)) | go_size))), by (repeat' (first | (with_reducible (first | exact Below.refl _ _ | assumption | refine below_drewN ?_ _ | refine Below.drew ?_ | refine Below.alloc ?_ ?_ _ | refine Below.setCell ?_ ?_ _)) | go_size)), hide hs2⟩
        case measure => simp [intOf]; omega
      · obtain ⟨f, hf⟩ : ∃ f, L[e.id]? = some f := ⟨_, List.getElem?_eq_getElem (by omega)⟩
        rw [one1_yes c1' hf] at hs2
        have hne : L ≠ [] := by intro e; rw [e] at c2; simp at c2
        have hbw := hb hne
        obtain rfl := ha hne
        have d1 : decide ((e.id : Int) < (L.length : Int)) = true := decide_eq_true (by omega)
        have d1n : decide (e.id < L.length) = true := decide_eq_true (by omega)
        have hii : (e.id : Int) < (L.length : Int) := by omega
        have hii0 : (0 : Int) ≤ (e.id : Int) := by omega
        go_upto_region 6 with (fail)
        clear y0 y1 y2 y3 y4 y5 y6 y7 y8 y9 y10 y11
        refine wp_forget (fun v => Below w.heap.size w v ∧ Below wr.heap.size wr v ∧ Blk v wr.heap.size #[.int .i64 e.op, .bool false, .bool e.rl, .int .u64 e.at_, .int .u64 e.dn, .int .i64 e.cls, .int .u64 e.id, .int .i64 e.len, .int .u16 e.h0, .int .u16 e.h1, .int .u16 e.h2, .int .u16 e.h3] 116) ⟨by (repeat' (first | (with_reducible (first | exact Below.refl _ _ | assumption | refine below_drewN ?_ _ | refine Below.drew ?_ | refine Below.alloc ?_ ?_ _ | refine Below.setCell ?_ ?_ _)) | go_size)), by (repeat' (first | (with_reducible (first | exact Below.refl _ _ | assumption | refine below_drewN ?_ _ | refine Below.drew ?_ | refine Below.alloc ?_ ?_ _ | refine Below.setCell ?_ ?_ _)) | go_size)), by (repeat' (first | (with_reducible (first | assumption | exact Blk.alloc_new _ _ _ (by first | rfl | (simp; done) | omega) | apply Blk.drewN | apply Blk.drew | apply Blk.alloc_old | apply Blk.set_same | apply Blk.set_other)) | (show (_ : Nat) ≠ _; first | omega | (simp; done) | (simp; omega)) | ((simp only [List.setIfInBounds_toArray, List.set_cons_succ, List.set_cons_zero]); (with_reducible exact rfl)) | (with_reducible exact rfl) | (show (_ : Array Value) = _; exact rfl)))⟩ ?_
        rintro v1 ⟨g1, hw1, X1⟩
        have H1 := H0.below hw1
        have hz1 := g1.size
        refine wp_region_guarV 12 [.val (.slice oa out.length oc), .val (.pointer (some ⟨wr.heap.size, 4, none⟩)), .val (.int .u64 e.dn), .val (.slice (some ⟨b, off, none⟩) L.length cap), .val (.pointer (some ⟨wr.heap.size, 6, none⟩)), .val (.pointer (some ⟨wr.heap.size, 6, none⟩)), .val (.int .u64 e.id), .val (.pointer (some ⟨b, off + e.id * 2, none⟩)), .val (.pointer (some ⟨b, off + e.id * 2 + 1, none⟩)), .val (SV f.d), .val (.agg #[.int .u64 e.dn, SV f.d]), .row 1 #[.int .u64 e.dn, SV f.d] 55] (by kernel_rfl) (by kernel_rfl) (by simp) (by kernel_rfl) (by kernel_rfl) ?_ ?_
        · refine ⟨?_, ?_, ?_, ?_, ?_, ?_, ?_, ?_, ?_, ?_, ?_, ?_, trivial⟩
          · intro a v c
            have e5 : a.eval (.tmp 5) = .slice oa out.length oc := (c.off 5 (by kernel_rfl)).trans rfl
            have f5 := (eval_opt a 5).trans e5
            exact gvalV (.slice oa out.length oc) (by simp only [execOp, f5, e5]; go_simp) rfl
          · intro a v c
            have e7 : a.eval (.tmp 7) = .pointer (some ⟨wr.heap.size, 0, none⟩) := (c.off 7 (by kernel_rfl)).trans rfl
            have f7 := (eval_opt a 7).trans e7
            exact gvalV (.pointer (some ⟨wr.heap.size, 4, none⟩)) (by simp only [execOp, f7, e7]; go_simp) rfl
          · intro a v c
            have e27 : a.eval (.tmp 27) = .pointer (some ⟨wr.heap.size, 4, none⟩) := c.dep 1 _ 27 (by kernel_rfl) rfl rfl
            have f27 := (eval_opt a 27).trans e27
            have bb : Below v1.heap.size v1 v := Below.trans (Below.drew (Below.refl _ _)) c.below
            have kX := X1.below bb X1.size; have cX := kX.cell
            exact gvalV (.int .u64 e.dn) (by simp only [execOp, f27, e27]; go_simp) rfl
          · intro a v c
            have e0 : a.eval (.tmp 0) = .slice (some ⟨b, off, none⟩) L.length cap := (c.off 0 (by kernel_rfl)).trans rfl
            have f0 := (eval_opt a 0).trans e0
            exact gvalV (.slice (some ⟨b, off, none⟩) L.length cap) (by simp only [execOp, f0, e0]; go_simp) rfl
          · intro a v c
            have e7 : a.eval (.tmp 7) = .pointer (some ⟨wr.heap.size, 0, none⟩) := (c.off 7 (by kernel_rfl)).trans rfl
            have f7 := (eval_opt a 7).trans e7
            exact gvalV (.pointer (some ⟨wr.heap.size, 6, none⟩)) (by simp only [execOp, f7, e7]; go_simp) rfl
          · intro a v c
            have e30 : a.eval (.tmp 30) = .pointer (some ⟨wr.heap.size, 6, none⟩) := c.dep 4 _ 30 (by kernel_rfl) rfl rfl
            have f30 := (eval_opt a 30).trans e30
            exact gvalV (.pointer (some ⟨wr.heap.size, 6, none⟩)) (by simp only [execOp, f30, e30]; go_simp) rfl
          · intro a v c
            have e31 : a.eval (.tmp 31) = .pointer (some ⟨wr.heap.size, 6, none⟩) := c.dep 5 _ 31 (by kernel_rfl) rfl rfl
            have f31 := (eval_opt a 31).trans e31
            have bb : Below v1.heap.size v1 v := Below.trans (Below.drew (Below.refl _ _)) c.below
            have kX := X1.below bb X1.size; have cX := kX.cell
            exact gvalV (.int .u64 e.id) (by simp only [execOp, f31, e31]; go_simp) rfl
          · intro a v c
            have e29 : a.eval (.tmp 29) = .slice (some ⟨b, off, none⟩) L.length cap := c.dep 3 _ 29 (by kernel_rfl) rfl rfl
            have e32 : a.eval (.tmp 32) = .int .u64 e.id := c.dep 6 _ 32 (by kernel_rfl) rfl rfl
            have f29 := (eval_opt a 29).trans e29
            have f32 := (eval_opt a 32).trans e32
            exact gvalV (.pointer (some ⟨b, off + e.id * 2, none⟩)) (by simp only [execOp, f29, f32, e29, e32]; go_simp) rfl
          · intro a v c
            have e33 : a.eval (.tmp 33) = .pointer (some ⟨b, off + e.id * 2, none⟩) := c.dep 7 _ 33 (by kernel_rfl) rfl rfl
            have f33 := (eval_opt a 33).trans e33
            exact gvalV (.pointer (some ⟨b, off + e.id * 2 + 1, none⟩)) (by simp only [execOp, f33, e33]; go_simp) rfl
          · intro a v c
            have e34 : a.eval (.tmp 34) = .pointer (some ⟨b, off + e.id * 2 + 1, none⟩) := c.dep 8 _ 34 (by kernel_rfl) rfl rfl
            have f34 := (eval_opt a 34).trans e34
            have bb : Below v1.heap.size v1 v := Below.trans (Below.drew (Below.refl _ _)) c.below
            have q1 := (hL.below (g1.trans (bb.mono g1.size)) hbw _ _ hf).2
            exact gvalV (SV f.d) (by simp only [execOp, f34, e34]; go_simp) rfl
          · intro a v c
            have e28 : a.eval (.tmp 28) = .int .u64 e.dn := c.dep 2 _ 28 (by kernel_rfl) rfl rfl
            have e35 : a.eval (.tmp 35) = SV f.d := c.dep 9 _ 35 (by kernel_rfl) rfl rfl
            have f28 := (eval_opt a 28).trans e28
            have f35 := (eval_opt a 35).trans e35
            exact gvalV (.agg #[.int .u64 e.dn, SV f.d]) (by simp only [execOp, f28, f35, e28, e35]; go_simp) rfl
          · intro a v c
            have e36 : a.eval (.tmp 36) = .agg #[.int .u64 e.dn, SV f.d] := c.dep 10 _ 36 (by kernel_rfl) rfl rfl
            have f36 := (eval_opt a 36).trans e36
            exact gsliceV 1 #[.int .u64 e.dn, SV f.d] 55 rfl (by simp only [execOp, f36, e36]; go_simp)
        intro a v hb hd ho hs hf
        have e26 : a.eval (.tmp 26) = .slice oa out.length oc := hd 0 _ 26 (by omega) rfl rfl
        obtain ⟨B37, e37, hB37⟩ : ∃ b, a.eval (.tmp 37) = .slice (some ⟨b, 0, none⟩) 1 1 ∧ Blk v b #[.int .u64 e.dn, SV f.d] 55 := hd 11 _ 37 (by omega) rfl rfl
        have gG := g1.trans (hb.mono g1.size)
        have H2 := H1.below hb
        refine wpList_append_fr rfl (.tmp 26) (.tmp 37) rfl w.heap.size (.slice oa out.length oc) out ⟨e.dn, f.d⟩ B37 e26 e37 H2 hB37 (by omega) (by have := gG.size; omega) ?_
        intro v' w2 H3 hb3 _ _
        have g2 : Below w.heap.size w w2 := gG.trans hb3
        clear H2 hB37
        rw [frame_eta a 41 hs, hf]
        simp only [List.range, List.range.loop, List.map_cons, List.map_nil, ho 0 (by kernel_rfl), ho 1 (by kernel_rfl), ho 2 (by kernel_rfl), ho 3 (by kernel_rfl), ho 4 (by kernel_rfl), ho 5 (by kernel_rfl), ho 6 (by kernel_rfl), ho 7 (by kernel_rfl), ho 8 (by kernel_rfl), ho 9 (by kernel_rfl), ho 10 (by kernel_rfl), ho 11 (by kernel_rfl), ho 12 (by kernel_rfl), ho 13 (by kernel_rfl), ho 14 (by kernel_rfl), ho 15 (by kernel_rfl), ho 16 (by kernel_rfl), ho 17 (by kernel_rfl), ho 18 (by kernel_rfl), ho 19 (by kernel_rfl), ho 20 (by kernel_rfl), ho 21 (by kernel_rfl), ho 22 (by kernel_rfl), ho 23 (by kernel_rfl), ho 24 (by kernel_rfl), ho 25 (by kernel_rfl), ho 38 (by kernel_rfl), ho 39 (by kernel_rfl), ho 40 (by kernel_rfl)]
        clear hd ho hf hs hb e26 e37
        generalize a.eval (.tmp 26) = u26
        generalize a.eval (.tmp 27) = u27
        generalize a.eval (.tmp 28) = u28
        generalize a.eval (.tmp 29) = u29
        generalize a.eval (.tmp 30) = u30
        generalize a.eval (.tmp 31) = u31
        generalize a.eval (.tmp 32) = u32
        generalize a.eval (.tmp 33) = u33
        generalize a.eval (.tmp 34) = u34
        generalize a.eval (.tmp 35) = u35
        generalize a.eval (.tmp 36) = u36
        generalize a.eval (.tmp 37) = u37
        clear a
        go_simp
        go_wp2
        go_roundw
        case rel => exact ⟨k + 1, out ++ [⟨e.dn, f.d⟩], by omega, by go_num, by simp; omega, H3, g2, hide hs2⟩
        case measure => simp [intOf]; omega
    · obtain rfl : k = E.length := by omega
      have h2 := hss.out
      rw [List.drop_length] at h2
      have hsS : out = S := by simpa [sentL] using h2
      subst hsS
      clear hss h2
      go_wp2
      go_ret
      exact ⟨_, rfl, H0, by (repeat' (first | (with_reducible (first | exact Below.refl _ _ | assumption | refine below_drewN ?_ _ | refine Below.drew ?_ | refine Below.alloc ?_ ?_ _ | refine Below.setCell ?_ ?_ _)) | go_size))⟩
set_option maxRecDepth 100000 in
set_option maxHeartbeats 8000000 in
theorem rSent46 (L : List FM) (E : List EV) (a a' : Option Addr) (b off b' off' cap cap' : Nat) (w : World) (ha : L ≠ [] → a = some ⟨b, off, none⟩) (hb : L ≠ [] → b < w.heap.size) (hL : FmAt w b off L) (ha' : E ≠ [] → a' = some ⟨b', off', none⟩) (hb' : E ≠ [] → b' < w.heap.size) (hE : AtG 12 evVs w b' off' E) (hid : ∀ e ∈ E, (0 ≤ e.dn ∧ e.dn ≤ 18446744073709551615) ∧ e.id ≤ 18446744073709551615) (hn : L.length ≤ 100) (hn' : E.length ≤ 200) (hcap : L.length ≤ cap) (hcap' : E.length ≤ cap') :
    Calls Try.prog 25 #[.slice a L.length cap, .slice a' E.length cap'] w fun x w' => ∃ v, x = .returned v ∧ HoldRf w' w.heap.size v (sentL L E) ∧ Below w.heap.size w w' := by
  obtain ⟨S, hS⟩ : ∃ S, sentL L E = S := ⟨_, rfl⟩
  rw [hS]
  have HS := hide hS; clear hS
  go_enter Try.func25, Try.ntmps25
  go_wp2
  go_loopw [5, 12] (fun o i wr => ∃ (k : Nat) (out : List FM), k ≤ E.length ∧ i = .int .i64 k ∧ out.length ≤ k ∧ HoldRf wr w.heap.size o out ∧ Below w.heap.size w wr ∧ Hid (out ++ sentL L (E.drop k) = S)) (fun _ i _ => E.length - (intOf i).toNat)
  case atStart => exact ⟨0, [], Nat.zero_le _, rfl, by simp, HoldRf.nil _ _, by (repeat' (first | (with_reducible (first | exact Below.refl _ _ | assumption | refine below_drewN ?_ _ | refine Below.drew ?_ | refine Below.alloc ?_ ?_ _ | refine Below.setCell ?_ ?_ _)) | go_size)), hide (by simpa using HS.out)⟩
  case round =>
    obtain ⟨k, out, hk, rfl, hol, H0, g0, hss⟩ := hrel
    obtain ⟨W1, rfl⟩ : ∃ W, W = wr := ⟨_, rfl⟩
    have hl0 := g0.size
    by_cases hlt : k < E.length
    · obtain ⟨e, he⟩ : ∃ e, E[k]? = some e := ⟨_, List.getElem?_eq_getElem hlt⟩
      have hdk : E.drop k = e :: E.drop (k + 1) := by
        obtain ⟨hk', e⟩ := List.getElem?_eq_some_iff.1 he
        rw [List.drop_eq_getElem_cons hk', e]
      have hne' : E ≠ [] := by intro e; rw [e] at hlt; simp at hlt
      have hbw' := hb' hne'
      obtain rfl := ha' hne'
      have hs1 := hss.out
      rw [hdk] at hs1
      have hs2 := hide (show (out ++ one1 e L) ++ sentL L (E.drop (k + 1)) = S by rw [List.append_assoc]; exact hs1)
      have hki : (k : Int) < (E.length : Int) := by omega
      have hkb : (k : Int) ≤ 200 := by omega
      obtain ⟨hdn, hei⟩ := hid e (List.mem_of_getElem? he)
      have y0 : W1.cell? ⟨b', off' + k * 12, none⟩ = some (.int .i64 e.op) := (hE.below g0 hbw') k e he 0 _ rfl
      have y1 : W1.cell? ⟨b', off' + k * 12 + 1, none⟩ = some (.bool e.inn) := (hE.below g0 hbw') k e he 1 _ rfl
      have y2 : W1.cell? ⟨b', off' + k * 12 + 2, none⟩ = some (.bool e.rl) := (hE.below g0 hbw') k e he 2 _ rfl
      have y3 : W1.cell? ⟨b', off' + k * 12 + 3, none⟩ = some (.int .u64 e.at_) := (hE.below g0 hbw') k e he 3 _ rfl
      have y4 : W1.cell? ⟨b', off' + k * 12 + 4, none⟩ = some (.int .u64 e.dn) := (hE.below g0 hbw') k e he 4 _ rfl
      have y5 : W1.cell? ⟨b', off' + k * 12 + 5, none⟩ = some (.int .i64 e.cls) := (hE.below g0 hbw') k e he 5 _ rfl
      have y6 : W1.cell? ⟨b', off' + k * 12 + 6, none⟩ = some (.int .u64 e.id) := (hE.below g0 hbw') k e he 6 _ rfl
      have y7 : W1.cell? ⟨b', off' + k * 12 + 7, none⟩ = some (.int .i64 e.len) := (hE.below g0 hbw') k e he 7 _ rfl
      have y8 : W1.cell? ⟨b', off' + k * 12 + 8, none⟩ = some (.int .u16 e.h0) := (hE.below g0 hbw') k e he 8 _ rfl
      have y9 : W1.cell? ⟨b', off' + k * 12 + 9, none⟩ = some (.int .u16 e.h1) := (hE.below g0 hbw') k e he 9 _ rfl
      have y10 : W1.cell? ⟨b', off' + k * 12 + 10, none⟩ = some (.int .u16 e.h2) := (hE.below g0 hbw') k e he 10 _ rfl
      have y11 : W1.cell? ⟨b', off' + k * 12 + 11, none⟩ = some (.int .u16 e.h3) := (hE.below g0 hbw') k e he 11 _ rfl
      clear hss hs1 hdk
      go_wp2
      go_loopw [5, 18] (fun o i wr => ∃ (m : Nat), m ≤ L.length ∧ i = .int .i64 m ∧ HoldRf wr w.heap.size o (out ++ one1 e (L.take m)) ∧ Below w.heap.size w wr ∧ Blk wr W1.heap.size #[.int .i64 e.op, .bool e.inn, .bool e.rl, .int .u64 e.at_, .int .u64 e.dn, .int .i64 e.cls, .int .u64 e.id, .int .i64 e.len, .int .u16 e.h0, .int .u16 e.h1, .int .u16 e.h2, .int .u16 e.h3] 116) (fun _ i _ => L.length - (intOf i).toNat)
      case atStart => exact ⟨0, Nat.zero_le _, rfl, by rw [List.take_zero, one1_no (by simp), List.append_nil]; exact H0.below (by (repeat' (first | (with_reducible (first | exact Below.refl _ _ | assumption | refine below_drewN ?_ _ | refine Below.drew ?_ | refine Below.alloc ?_ ?_ _ | refine Below.setCell ?_ ?_ _)) | go_size))), by (repeat' (first | (with_reducible (first | exact Below.refl _ _ | assumption | refine below_drewN ?_ _ | refine Below.drew ?_ | refine Below.alloc ?_ ?_ _ | refine Below.setCell ?_ ?_ _)) | go_size)), by (repeat' (first | (with_reducible (first | assumption | exact Blk.alloc_new _ _ _ (by first | rfl | (simp; done) | omega) | apply Blk.drewN | apply Blk.drew | apply Blk.alloc_old | apply Blk.set_same | apply Blk.set_other)) | (show (_ : Nat) ≠ _; first | omega | (simp; done) | (simp; omega)) | ((simp only [List.setIfInBounds_toArray, List.set_cons_succ, List.set_cons_zero]); (with_reducible exact rfl)) | (with_reducible exact rfl) | (show (_ : Array Value) = _; exact rfl)))⟩
      case round =>
        obtain ⟨m, hm, rfl, H1, g1, X1⟩ := hrel
        have cX := X1.cell; have fX := X1.frozen; have zX := X1.size; have hl1 := g1.size
        have ho1 := one1_len e (L.take m)
        clear y0 y1 y2 y3 y4 y5 y6 y7 y8 y9 y10 y11
        by_cases hml : m < L.length
        · obtain ⟨f, hf⟩ : ∃ f, L[m]? = some f := ⟨_, List.getElem?_eq_getElem hml⟩
          have hne : L ≠ [] := by intro e; rw [e] at hml; simp at hml
          have hbw := hb hne
          obtain rfl := ha hne
          obtain ⟨q0, q1⟩ := (hL.below g1 hbw) m f hf
          have hmi : (m : Int) < (L.length : Int) := by omega
          have hmb : (m : Int) ≤ 100 := by omega
          have hwm : IntKind.u64.wrap (m : Int) = (m : Int) := IntWalk.u64_in _ ⟨by omega, by omega⟩
          by_cases c1 : e.inn = true
          · have hnx : one1 e (L.take (m + 1)) = one1 e (L.take m) := by rw [one1_in c1, one1_in c1]
            go_wp2
            go_roundw
            case rel => exact ⟨m + 1, by omega, by go_num, by rw [hnx]; exact H1.below (by (repeat' (first | (with_reducible (first | exact Below.refl _ _ | assumption | refine below_drewN ?_ _ | refine Below.drew ?_ | refine Below.alloc ?_ ?_ _ | refine Below.setCell ?_ ?_ _)) | go_size))), by (repeat' (first | (with_reducible (first | exact Below.refl _ _ | assumption | refine below_drewN ?_ _ | refine Below.drew ?_ | refine Below.alloc ?_ ?_ _ | refine Below.setCell ?_ ?_ _)) | go_size)), by (repeat' (first | (with_reducible (first | assumption | exact Blk.alloc_new _ _ _ (by first | rfl | (simp; done) | omega) | apply Blk.drewN | apply Blk.drew | apply Blk.alloc_old | apply Blk.set_same | apply Blk.set_other)) | (show (_ : Nat) ≠ _; first | omega | (simp; done) | (simp; omega)) | ((simp only [List.setIfInBounds_toArray, List.set_cons_succ, List.set_cons_zero]); (with_reducible exact rfl)) | (with_reducible exact rfl) | (show (_ : Array Value) = _; exact rfl)))⟩
            case measure => simp [intOf]; omega
          have c1' : e.inn = false := by cases h : e.inn with | true => exact absurd h c1 | false => rfl
          have d0 : (!e.inn) = true := by rw [c1']; rfl
          clear c1
          by_cases c2 : e.id = m
          · have hnx : out ++ one1 e (L.take (m + 1)) = (out ++ one1 e (L.take m)) ++ [⟨e.dn, f.d⟩] := by
              rw [one1_no (L := L.take m) (by rw [List.length_take]; omega), List.append_nil, one1_yes c1' (by rw [List.getElem?_take_of_lt (by omega), c2]; exact hf)]
            have d1 : ((e.id : Int) == (m : Int)) = true := beq_iff_eq.2 (by omega)
            have d1n : (e.id == m) = true := beq_iff_eq.2 c2
            clear c1' c2
            go_wp2_with (refine wpList_append_rf rfl (.tmp 34) (.tmp 40) rfl w.heap.size u5 (out ++ one1 e (L.take m)) ⟨e.dn, f.d⟩ (wr.heap.size + 1) (by rfl) (by rfl) (H1.below (by (repeat' (first | (with_reducible (first | exact Below.refl _ _ | assumption | refine below_drewN ?_ _ | refine Below.drew ?_ | refine Below.alloc ?_ ?_ _ | refine Below.setCell ?_ ?_ _)) | go_size)))) (by (repeat' (first | (with_reducible (first | assumption | exact Blk.alloc_new _ _ _ (by first | rfl | (simp; done) | omega) | apply Blk.drewN | apply Blk.drew | apply Blk.alloc_old | apply Blk.set_same | apply Blk.set_other)) | (show (_ : Nat) ≠ _; first | omega | (simp; done) | (simp; omega)) | ((simp only [List.setIfInBounds_toArray, List.set_cons_succ, List.set_cons_zero]); (with_reducible exact rfl)) | (with_reducible exact rfl) | (show (_ : Array Value) = _; exact rfl)))) (by rw [List.length_append]; omega) (by simp; omega) ?_; intro v' w2 H2 hb2 hlow hoth; have g2 : Below w.heap.size w w2 := Below.trans (by (repeat' (first | (with_reducible (first | exact Below.refl _ _ | assumption | refine below_drewN ?_ _ | refine Below.drew ?_ | refine Below.alloc ?_ ?_ _ | refine Below.setCell ?_ ?_ _)) | go_size))) hb2; have hz2 := g2.size; have X2 : Blk w2 (W1.heap.size) #[.int .i64 e.op, .bool e.inn, .bool e.rl, .int .u64 e.at_, .int .u64 e.dn, .int .i64 e.cls, .int .u64 e.id, .int .i64 e.len, .int .u16 e.h0, .int .u16 e.h1, .int .u16 e.h2, .int .u16 e.h3] 116 := hoth _ _ _ (H1.ne_blk X1 (by decide)) (by (repeat' (first | (with_reducible (first | assumption | exact Blk.alloc_new _ _ _ (by first | rfl | (simp; done) | omega) | apply Blk.drewN | apply Blk.drew | apply Blk.alloc_old | apply Blk.set_same | apply Blk.set_other)) | (show (_ : Nat) ≠ _; first | omega | (simp; done) | (simp; omega)) | ((simp only [List.setIfInBounds_toArray, List.set_cons_succ, List.set_cons_zero]); (with_reducible exact rfl)) | (with_reducible exact rfl) | (show (_ : Array Value) = _; exact rfl)))))
            go_roundw
            case rel => exact ⟨m + 1, by omega, by go_num, by rw [hnx]; exact H2, g2, X2⟩
            case measure => simp [intOf]; omega
          · have hnx := one1_take (L := L) c2
            have d1 : ((e.id : Int) == (m : Int)) = false := beq_eq_false_iff_ne.2 (by omega)
            have d1n : (e.id == m) = false := beq_eq_false_iff_ne.2 c2
            clear c1' c2
            go_wp2
            go_roundw
            case rel => exact ⟨m + 1, by omega, by go_num, by rw [hnx]; exact H1.below (by (repeat' (first | (with_reducible (first | exact Below.refl _ _ | assumption | refine below_drewN ?_ _ | refine Below.drew ?_ | refine Below.alloc ?_ ?_ _ | refine Below.setCell ?_ ?_ _)) | go_size))), by (repeat' (first | (with_reducible (first | exact Below.refl _ _ | assumption | refine below_drewN ?_ _ | refine Below.drew ?_ | refine Below.alloc ?_ ?_ _ | refine Below.setCell ?_ ?_ _)) | go_size)), by (repeat' (first | (with_reducible (first | assumption | exact Blk.alloc_new _ _ _ (by first | rfl | (simp; done) | omega) | apply Blk.drewN | apply Blk.drew | apply Blk.alloc_old | apply Blk.set_same | apply Blk.set_other)) | (show (_ : Nat) ≠ _; first | omega | (simp; done) | (simp; omega)) | ((simp only [List.setIfInBounds_toArray, List.set_cons_succ, List.set_cons_zero]); (with_reducible exact rfl)) | (with_reducible exact rfl) | (show (_ : Array Value) = _; exact rfl)))⟩
            case measure => simp [intOf]; omega
        · obtain rfl : m = L.length := by omega
          rw [List.take_length] at H1 ho1
          go_wp2
          go_roundw
          case rel => exact ⟨k + 1, out ++ one1 e L, by omega, by go_num, by rw [List.length_append]; omega, H1.below (by (repeat' (first | (with_reducible (first | exact Below.refl _ _ | assumption | refine below_drewN ?_ _ | refine Below.drew ?_ | refine Below.alloc ?_ ?_ _ | refine Below.setCell ?_ ?_ _)) | go_size))), by (repeat' (first | (with_reducible (first | exact Below.refl _ _ | assumption | refine below_drewN ?_ _ | refine Below.drew ?_ | refine Below.alloc ?_ ?_ _ | refine Below.setCell ?_ ?_ _)) | go_size)), hs2⟩
          case measure => simp [intOf]; omega
    · obtain rfl : k = E.length := by omega
      have h2 := hss.out
      rw [List.drop_length] at h2
      have hsS : out = S := by simpa [sentL] using h2
      subst hsS
      clear hss h2
      go_wp2
      go_ret
      exact ⟨_, rfl, H0, by (repeat' (first | (with_reducible (first | exact Below.refl _ _ | assumption | refine below_drewN ?_ _ | refine Below.drew ?_ | refine Below.alloc ?_ ?_ _ | refine Below.setCell ?_ ?_ _)) | go_size))⟩
section
open Go.ChangeShapes Go.WideShapes Go.ChangeAt
theorem slice_cap {t e : TypeId} {H : Type} {w : World} {base : Nat} {spare : Nat → Bool} {held : Bool} {enc : TypeId × Value → H} {s : Option Addr} {len cap fuel : Nat} {x : DataW H × List MemPlace} (ht : Try.prog.underlying t = some (.slice e)) (h : DataW.trod enc Try.prog w base spare held fuel t [.slice s len cap] = some x) : len ≤ cap := by
  rcases Go.Deep.open_slice ht h with ⟨hcs, _⟩ | ⟨a, len', cap', m, n, D, Pl, hcs, hb, hl, hm, hmm, hx, hi⟩
  · simp at hcs
    obtain ⟨rfl, rfl, rfl⟩ := hcs
    exact Nat.le_refl _
  · simp at hcs
    obtain ⟨rfl, rfl, rfl⟩ := hcs
    exact hl
set_option maxRecDepth 100000 in
set_option maxHeartbeats 4000000 in
theorem capSentLaw_few (a a' : Option Addr) (cap cap' : Nat) (L : List FM) (E : List EV) (w : World)  (KF : Hid (∀ v, Below w.heap.size w v → Calls Try.prog 12 #[.slice a L.length cap] v fun r w' => r = .returned (.bool false) ∧ Below v.heap.size v w')) : Calls Try.prog 6 #[.slice a L.length cap, (.slice a' E.length cap')] w fun e w' => e = .returned (.bool true) ∧ Below w.heap.size w w' := by
  skip
  go_enter Try.func6, Try.ntmps6
  go_wp2_with fail
  refine (KF.out _ (by (repeat' (first | (with_reducible (first | exact Below.refl _ _ | assumption | refine below_drewN ?_ _ | refine Below.drew ?_ | refine Below.alloc ?_ ?_ _ | refine Below.setCell ?_ ?_ _)) | go_size)))).mono ?_
  rintro e w1 ⟨rfl, hb1⟩
  have g1 : Below w.heap.size w w1 := by refine Below.trans ?_ (hb1.mono ?_) <;> (repeat' (first | (with_reducible (first | exact Below.refl _ _ | assumption | refine below_drewN ?_ _ | refine Below.drew ?_ | refine Below.alloc ?_ ?_ _ | refine Below.setCell ?_ ?_ _)) | go_size))
  have hz1 := hb1.size
  (try simp at hz1)
  clear hb1
  go_wp2_with fail
  refine (capOne _).mono ?_
  rintro e w2 ⟨rfl, hb2⟩
  have g2 : Below w.heap.size w w2 := by refine Below.trans ?_ (hb2.mono ?_) <;> (repeat' (first | (with_reducible (first | exact Below.refl _ _ | assumption | refine below_drewN ?_ _ | refine Below.drew ?_ | refine Below.alloc ?_ ?_ _ | refine Below.setCell ?_ ?_ _)) | go_size))
  have hz2 := hb2.size
  (try simp at hz2)
  clear hb2
  go_wp2
  go_ret
  exact ⟨rfl, by (repeat' (first | (with_reducible (first | exact Below.refl _ _ | assumption | refine below_drewN ?_ _ | refine Below.drew ?_ | refine Below.alloc ?_ ?_ _ | refine Below.setCell ?_ ?_ _)) | go_size))⟩
set_option maxRecDepth 100000 in
set_option maxHeartbeats 4000000 in
theorem capSentLaw_long (a a' : Option Addr) (cap cap' : Nat) (L : List FM) (E : List EV) (w : World) (h1 : 100 < L.length) (KF : Hid (∀ v, Below w.heap.size w v → Calls Try.prog 12 #[.slice a L.length cap] v fun r w' => r = .returned (.bool true) ∧ Below v.heap.size v w')) : Calls Try.prog 6 #[.slice a L.length cap, (.slice a' E.length cap')] w fun e w' => e = .returned (.bool true) ∧ Below w.heap.size w w' := by
  have d1 : decide (100 < (L.length : Int)) = true := decide_eq_true (by omega); have d1n : decide (100 < L.length) = true := decide_eq_true (by omega)
  go_enter Try.func6, Try.ntmps6
  go_wp2_with fail
  refine (KF.out _ (by (repeat' (first | (with_reducible (first | exact Below.refl _ _ | assumption | refine below_drewN ?_ _ | refine Below.drew ?_ | refine Below.alloc ?_ ?_ _ | refine Below.setCell ?_ ?_ _)) | go_size)))).mono ?_
  rintro e w1 ⟨rfl, hb1⟩
  have g1 : Below w.heap.size w w1 := by refine Below.trans ?_ (hb1.mono ?_) <;> (repeat' (first | (with_reducible (first | exact Below.refl _ _ | assumption | refine below_drewN ?_ _ | refine Below.drew ?_ | refine Below.alloc ?_ ?_ _ | refine Below.setCell ?_ ?_ _)) | go_size))
  have hz1 := hb1.size
  (try simp at hz1)
  clear hb1
  go_wp2_with fail
  refine (capOne _).mono ?_
  rintro e w2 ⟨rfl, hb2⟩
  have g2 : Below w.heap.size w w2 := by refine Below.trans ?_ (hb2.mono ?_) <;> (repeat' (first | (with_reducible (first | exact Below.refl _ _ | assumption | refine below_drewN ?_ _ | refine Below.drew ?_ | refine Below.alloc ?_ ?_ _ | refine Below.setCell ?_ ?_ _)) | go_size))
  have hz2 := hb2.size
  (try simp at hz2)
  clear hb2
  go_wp2
  go_ret
  exact ⟨rfl, by (repeat' (first | (with_reducible (first | exact Below.refl _ _ | assumption | refine below_drewN ?_ _ | refine Below.drew ?_ | refine Below.alloc ?_ ?_ _ | refine Below.setCell ?_ ?_ _)) | go_size))⟩
set_option maxRecDepth 100000 in
set_option maxHeartbeats 4000000 in
theorem capSentLaw_many (a a' : Option Addr) (cap cap' : Nat) (L : List FM) (E : List EV) (w : World) (h1 : L.length ≤ 100) (h2 : 200 < E.length) (KF : Hid (∀ v, Below w.heap.size w v → Calls Try.prog 12 #[.slice a L.length cap] v fun r w' => r = .returned (.bool true) ∧ Below v.heap.size v w')) : Calls Try.prog 6 #[.slice a L.length cap, (.slice a' E.length cap')] w fun e w' => e = .returned (.bool true) ∧ Below w.heap.size w w' := by
  have d1 : decide (100 < (L.length : Int)) = false := decide_eq_false (by omega); have d1n : decide (100 < L.length) = false := decide_eq_false (by omega); have d2 : decide (200 < (E.length : Int)) = true := decide_eq_true (by omega); have d2n : decide (200 < E.length) = true := decide_eq_true (by omega)
  go_enter Try.func6, Try.ntmps6
  go_wp2_with fail
  refine (KF.out _ (by (repeat' (first | (with_reducible (first | exact Below.refl _ _ | assumption | refine below_drewN ?_ _ | refine Below.drew ?_ | refine Below.alloc ?_ ?_ _ | refine Below.setCell ?_ ?_ _)) | go_size)))).mono ?_
  rintro e w1 ⟨rfl, hb1⟩
  have g1 : Below w.heap.size w w1 := by refine Below.trans ?_ (hb1.mono ?_) <;> (repeat' (first | (with_reducible (first | exact Below.refl _ _ | assumption | refine below_drewN ?_ _ | refine Below.drew ?_ | refine Below.alloc ?_ ?_ _ | refine Below.setCell ?_ ?_ _)) | go_size))
  have hz1 := hb1.size
  (try simp at hz1)
  clear hb1
  go_wp2_with fail
  refine (capOne _).mono ?_
  rintro e w2 ⟨rfl, hb2⟩
  have g2 : Below w.heap.size w w2 := by refine Below.trans ?_ (hb2.mono ?_) <;> (repeat' (first | (with_reducible (first | exact Below.refl _ _ | assumption | refine below_drewN ?_ _ | refine Below.drew ?_ | refine Below.alloc ?_ ?_ _ | refine Below.setCell ?_ ?_ _)) | go_size))
  have hz2 := hb2.size
  (try simp at hz2)
  clear hb2
  go_wp2
  go_ret
  exact ⟨rfl, by (repeat' (first | (with_reducible (first | exact Below.refl _ _ | assumption | refine below_drewN ?_ _ | refine Below.drew ?_ | refine Below.alloc ?_ ?_ _ | refine Below.setCell ?_ ?_ _)) | go_size))⟩
set_option maxRecDepth 100000 in
set_option maxHeartbeats 4000000 in
theorem capSentLaw_ok (a a' : Option Addr) (cap cap' : Nat) (L : List FM) (E : List EV) (w : World) (S : List FM) (h1 : L.length ≤ 100) (h2 : E.length ≤ 200) (KF : Hid (∀ v, Below w.heap.size w v → Calls Try.prog 12 #[.slice a L.length cap] v fun r w' => r = .returned (.bool true) ∧ Below v.heap.size v w')) (KR : Hid (∀ v, Below w.heap.size w v → Calls Try.prog 16 #[.slice a L.length cap] v fun r w' => ∃ u, r = .returned u ∧ HoldRf w' v.heap.size u L ∧ Below v.heap.size v w'))
    (KS : Hid (∀ v, Below w.heap.size w v → Calls Try.prog 24 #[.slice a L.length cap, (.slice a' E.length cap')] v fun r w' => ∃ u, r = .returned u ∧ HoldFr w' v.heap.size u S ∧ Below v.heap.size v w'))
    (KX : Hid (∀ v b u, Below w.heap.size w v → HoldRf v b u L → Calls Try.prog 25 #[u, (.slice a' E.length cap')] v fun r w' => ∃ u', r = .returned u' ∧ HoldRf w' v.heap.size u' S ∧ Below v.heap.size v w'))
    (KQ : Hid (∀ v b m b' u, HoldFr v b m S → HoldRf v b' u S → Calls Try.prog 19 #[m, u] v fun r w' => r = .returned (.bool true) ∧ Below v.heap.size v w')) : Calls Try.prog 6 #[.slice a L.length cap, (.slice a' E.length cap')] w fun e w' => e = .returned (.bool true) ∧ Below w.heap.size w w' := by
  have d1 : decide (100 < (L.length : Int)) = false := decide_eq_false (by omega); have d1n : decide (100 < L.length) = false := decide_eq_false (by omega)
  have d2 : decide (200 < (E.length : Int)) = false := decide_eq_false (by omega); have d2n : decide (200 < E.length) = false := decide_eq_false (by omega)
  go_enter Try.func6, Try.ntmps6
  go_wp2_with fail
  refine (KF.out _ (by (repeat' (first | (with_reducible (first | exact Below.refl _ _ | assumption | refine below_drewN ?_ _ | refine Below.drew ?_ | refine Below.alloc ?_ ?_ _ | refine Below.setCell ?_ ?_ _)) | go_size)))).mono ?_
  rintro e w1 ⟨rfl, hb1⟩
  have g1 : Below w.heap.size w w1 := by refine Below.trans ?_ (hb1.mono ?_) <;> (repeat' (first | (with_reducible (first | exact Below.refl _ _ | assumption | refine below_drewN ?_ _ | refine Below.drew ?_ | refine Below.alloc ?_ ?_ _ | refine Below.setCell ?_ ?_ _)) | go_size))
  have hz1 := hb1.size
  (try simp at hz1)
  clear hb1
  go_wp2_with fail
  refine (KS.out _ (by (repeat' (first | (with_reducible (first | exact Below.refl _ _ | assumption | refine below_drewN ?_ _ | refine Below.drew ?_ | refine Below.alloc ?_ ?_ _ | refine Below.setCell ?_ ?_ _)) | go_size)))).mono ?_
  rintro e w2 ⟨u2, rfl, S2, hb2⟩
  have g2 : Below w.heap.size w w2 := by refine Below.trans ?_ (hb2.mono ?_) <;> (repeat' (first | (with_reducible (first | exact Below.refl _ _ | assumption | refine below_drewN ?_ _ | refine Below.drew ?_ | refine Below.alloc ?_ ?_ _ | refine Below.setCell ?_ ?_ _)) | go_size))
  have hz2 := hb2.size
  (try simp at hz2)
  clear hb2
  go_wp2_with fail
  refine (KR.out _ (by (repeat' (first | (with_reducible (first | exact Below.refl _ _ | assumption | refine below_drewN ?_ _ | refine Below.drew ?_ | refine Below.alloc ?_ ?_ _ | refine Below.setCell ?_ ?_ _)) | go_size)))).mono ?_
  rintro e w3 ⟨u3, rfl, H3, hb3⟩
  have S3 := S2.below hb3; have g3 : Below w.heap.size w w3 := by refine Below.trans ?_ (hb3.mono ?_) <;> (repeat' (first | (with_reducible (first | exact Below.refl _ _ | assumption | refine below_drewN ?_ _ | refine Below.drew ?_ | refine Below.alloc ?_ ?_ _ | refine Below.setCell ?_ ?_ _)) | go_size))
  have hz3 := hb3.size
  (try simp at hz3)
  clear hb3
  go_wp2_with fail
  refine (KX.out _ _ _ (by (repeat' (first | (with_reducible (first | exact Below.refl _ _ | assumption | refine below_drewN ?_ _ | refine Below.drew ?_ | refine Below.alloc ?_ ?_ _ | refine Below.setCell ?_ ?_ _)) | go_size))) H3).mono ?_
  rintro e w4 ⟨u4, rfl, H4, hb4⟩
  have S4 := S3.below hb4; have g4 : Below w.heap.size w w4 := by refine Below.trans ?_ (hb4.mono ?_) <;> (repeat' (first | (with_reducible (first | exact Below.refl _ _ | assumption | refine below_drewN ?_ _ | refine Below.drew ?_ | refine Below.alloc ?_ ?_ _ | refine Below.setCell ?_ ?_ _)) | go_size))
  have hz4 := hb4.size
  (try simp at hz4)
  clear hb4
  go_wp2_with fail
  refine (KQ.out _ _ _ _ _ S4 H4).mono ?_
  rintro e w5 ⟨rfl, hb5⟩
  have g5 : Below w.heap.size w w5 := by refine Below.trans ?_ (hb5.mono ?_) <;> (repeat' (first | (with_reducible (first | exact Below.refl _ _ | assumption | refine below_drewN ?_ _ | refine Below.drew ?_ | refine Below.alloc ?_ ?_ _ | refine Below.setCell ?_ ?_ _)) | go_size))
  have hz5 := hb5.size
  (try simp at hz5)
  clear hb5
  go_wp2_with fail
  refine (capOne _).mono ?_
  rintro e w6 ⟨rfl, hb6⟩
  have g6 : Below w.heap.size w w6 := by refine Below.trans ?_ (hb6.mono ?_) <;> (repeat' (first | (with_reducible (first | exact Below.refl _ _ | assumption | refine below_drewN ?_ _ | refine Below.drew ?_ | refine Below.alloc ?_ ?_ _ | refine Below.setCell ?_ ?_ _)) | go_size))
  have hz6 := hb6.size
  (try simp at hz6)
  clear hb6
  go_wp2
  go_ret
  exact ⟨rfl, by (repeat' (first | (with_reducible (first | exact Below.refl _ _ | assumption | refine below_drewN ?_ _ | refine Below.drew ?_ | refine Below.alloc ?_ ?_ _ | refine Below.setCell ?_ ?_ _)) | go_size))⟩
theorem CaptureSent_walk (w : World) (a : Option Addr) (cap : Nat) (L : List FM) (hF : Frames w a L) (hcap : L.length ≤ cap) (hcm : cap ≤ maxLen) (a' : Option Addr) (len' cap' : Nat) (hE0 : Rows_event w a' len') (hcap' : len' ≤ cap') : Calls Try.prog 6 #[.slice a L.length cap, .slice a' len' cap'] w fun e w' => e = .returned (.bool true) ∧ Below w.heap.size w w' := by
  obtain ⟨E, rfl, hE⟩ := events_of hE0
  by_cases hf : 1001 < L.length ∨ fewG L 0 = false
  · exact capSentLaw_few a a' cap cap' L E w (few_false a cap L w hF hcap hf)
  have hn : L.length ≤ 1001 := by omega
  have hft : fewG L 0 = true := by cases h : fewG L 0 with | true => rfl | false => exact absurd (.inr h) hf
  have ok := okay_few hF hft
  have KF := few_true a cap L w hF hcap hn hft
  by_cases h1 : 100 < L.length
  · exact capSentLaw_long a a' cap cap' L E w h1 KF
  by_cases h2 : 200 < E.length
  · exact capSentLaw_many a a' cap cap' L E w (by omega) h2 KF
  have hsl := sentL_len L E
  refine capSentLaw_ok a a' cap cap' L E w (sentL L E) (by omega) (by omega) KF (ref_frames a cap L w hF hcap (by omega)) (hide fun v hv => ?_) (hide fun v b u hv h => ?_) (same_frames _ (by omega))
  · obtain ⟨b1, o1, k1, k2, k3⟩ := (hF.later hv).at
    obtain ⟨b2, o2, k4, k5, k6⟩ := (hE.later hv).at
    exact capSent L E a a' b1 o1 b2 o2 cap cap' v k1 k2 k3 k4 k5 k6 hE.2 (by omega) (by omega) hcap hcap'
  · obtain ⟨a1, c1, g1, rfl, k1, l1, m1, n1⟩ := own_at h
    obtain ⟨b2, o2, k4, k5, k6⟩ := (hE.later hv).at
    exact rSent46 L E a1 a' g1 0 b2 o2 c1 cap' v l1 m1 n1 k4 k5 k6 hE.2 (by omega) (by omega) k1 hcap'
namespace captureSentDone
theorem own : ownKnob Try.prog.godebug = none := by kernel_rfl
theorem laidOut : laidOutB Try.prog = true := by kernel_rfl
set_option maxRecDepth 100000 in
theorem lifted (os : Os) (started : os.Started) (H : Type) (enc : TypeId × Value → H) :
    ReturnsInHanded {} Try.checked os 6 .any (Rows.captureSentSpec.pre6 enc Try.prog Try.f6 Rows.captureSentRow.domain false) (Rows.captureSentSpec.post enc Try.prog Try.f6 false true false false) := by
  refine returnsInHanded_of_change (C := Try.checked) own started (by kernel_rfl) Try.func6
    (ChangeSpec.witness6 (enc := enc) (C := Try.checked) false ⟨#[], #[.slice none 0 0, .slice none 0 0], []⟩ 8 (by kernel_rfl) (by kernel_rfl) (by kernel_rfl) (by kernel_rfl)) ?_
  intro W base args ds gs before hval0 hW hcnd _
  have hval : ∀ (j : Nat) t v, Try.f6.params[j]? = some t → args[j]? = some v → Value.okWide Try.prog W .any base t v := hval0
  have hW' := hW
  obtain ⟨p, q, hA0, hV, rfl, hfz, hnd⟩ := hW
  have hA : DataW.TrodAll enc Try.prog W 0 (fun _ => true) true Try.f6.params.toList args.toList ds p := hA0
  rw [Try.params6] at hA hval
  obtain ⟨v0, vs0, d0, ds0, p0, q0, hargs, rfl, rfl, h0, r0⟩ := trodAll_cons hA
  obtain ⟨v1, vs1, d1, ds1, p1, q1, rfl, rfl, rfl, h1, r1⟩ := trodAll_cons r0
  obtain ⟨rfl, rfl, rfl⟩ := trodAll_nil r1
  obtain rfl : args = #[v0, v1] := by cases args; simp_all
  obtain ⟨rfl, rfl⟩ := trodVars_none hV
  obtain ⟨s0, len0, cap0, rfl⟩ := okWide_slice Try.underlying22 (hval 0 22 v0 rfl rfl)
  have k0 := h0
  have lt0 : ∀ x ∈ p0, x.block < W.heap.size := by obtain ⟨m, hm⟩ := k0; exact DataW.trod_lt m _ _ _ hm
  obtain ⟨L0, hl0, hc0, hm0, hF0⟩ : ∃ L : List FM, L.length = len0 ∧ len0 ≤ cap0 ∧ cap0 ≤ maxLen ∧ Frames W s0 L := by obtain ⟨fuel, hf⟩ := h0; exact open_frames (by simpa [Value.cells] using hf)
  subst hl0
  obtain ⟨s1, len1, cap1, rfl⟩ := okWide_slice Try.underlying57 (hval 1 57 v1 rfl rfl)
  have k1 := h1
  have lt1 : ∀ x ∈ p1, x.block < W.heap.size := by obtain ⟨m, hm⟩ := k1; exact DataW.trod_lt m _ _ _ hm
  have w1 : Rows_event W s1 len1 ∧ len1 ≤ maxLen := by obtain ⟨fuel, hf⟩ := h1; exact open_events (by simpa [Value.cells] using hf)
  have c1 : len1 ≤ cap1 := by obtain ⟨fuel, hf⟩ := h1; exact slice_cap Try.underlying57 (by simpa [Value.cells] using hf)
  clear hA0 hval0
  refine (CaptureSent_walk W s0 cap0 L0 hF0 hc0 hm0 s1 len1 cap1 w1.1 c1).mono fun e W' ⟨he, bel⟩ => ?_
  subst he
  exact ⟨_, rfl, _, _, _, [], _, [], hW', trodAll_mk1 (shut_bool Try.underlying4 _), (trodAll_cons_mk (Below.trod laidOut (by kernel_rfl) (of_decide_eq_true (by kernel_rfl)) k0 bel lt0) (trodAll_cons_mk (Below.trod laidOut (by kernel_rfl) (of_decide_eq_true (by kernel_rfl)) k1 bel lt1) trodAll_mk0)), rfl, bel.frame _, fun h => by cases h⟩
theorem over : Rows.captureSentRow.holds Try.pinned (OpenSpec.ofChange Rows.captureSentSpec) :=
  OpenClaim.holds_of_wide 6 Try.f6 rfl rfl rfl rfl rfl rfl rfl ⟨rfl, rfl, rfl, rfl, rfl⟩ rfl rfl rfl rfl rfl (by kernel_rfl) Try.func6 (by kernel_rfl)
    (of_decide_eq_true (by kernel_rfl)) (by unfold Func.isWrapper; first | (rw [if_pos (by decide +kernel)]; kernel_rfl) | (rw [if_neg (by decide +kernel)]; exact ⟨rfl, rfl⟩))
    (fun os started H enc _ => lifted os started H enc)
end captureSentDone
theorem CaptureSent_holds : Rows.CaptureSentSaid := captureSentDone.over

end
end Go.Proofs.Ytljpiofpfankoaa
