/-
  The statement RealLeast: the deadlines' run is, of all wakes, the least of what was picked till then, and the curve's service in the ticks since. Conditions: none.
-/
import Derived.Test.YtaaoadbcgnedkaaRealA
import Derived.Test.YtaaoadbcgnedkaaRealT
import Derived.Test.YtaaoadbcgnedkaaFrame
namespace Go.Proofs.Ytaaoadbcgnedkaa
open Go.ChangeShapes Go.WideShapes Go.ChangeAt Go.RowKit
open Go.Sort
set_option linter.unusedVariables false
set_option linter.unusedSimpArgs false
theorem call20list4 {α : Type} {l : List α} (h : l.length = 4) : ∃ a0 a1 a2 a3, l = [a0, a1, a2, a3] := by
  match l, h with
  | [a0, a1, a2, a3], _ => exact ⟨a0, a1, a2, a3, rfl⟩
theorem cells_call20 {H : Type} {w : World} {base : Nat} {spare : Nat → Bool} {held : Bool} {enc : TypeId × Value → H} {fuel : Nat} {c0 c1 c2 c3 : Value} {x : DataW H × List MemPlace} (hf : DataW.trod enc Try.prog w base spare held fuel 67 [c0, c1, c2, c3] = some x) :
    ∃ (x0 : Int) (x1 : Int) (x2 : Int) (x3 : Int), [c0, c1, c2, c3] = [.int .i64 x0, .int .u64 x1, .int .i64 x2, .int .i64 x3] ∧ (-9223372036854775808 ≤ x0 ∧ x0 ≤ 9223372036854775807) ∧ (0 ≤ x1 ∧ x1 ≤ 18446744073709551615) ∧ (-9223372036854775808 ≤ x2 ∧ x2 ≤ 9223372036854775807) ∧ (-9223372036854775808 ≤ x3 ∧ x3 ≤ 9223372036854775807) := by
  have k0 : Try.prog.cellsOf 67 = 4 := by kernel_rfl
  have k1 : Try.prog.cellsOf 3 = 1 := by kernel_rfl
  have k2 : Try.prog.cellsOf 22 = 1 := by kernel_rfl
  obtain ⟨ys0, m0, _, _, _, hl0, hx0⟩ := DataW.trod_struct Try.underlying67 hf
  obtain ⟨y0_0, y0_1, y0_2, y0_3, rfl⟩ := call20list4 hl0
  have q0_0 := hx0 0 _ rfl
  have q0_1 := hx0 1 _ rfl
  have q0_2 := hx0 2 _ rfl
  have q0_3 := hx0 3 _ rfl
  simp [k1, k2] at q0_0 q0_1 q0_2 q0_3
  obtain ⟨x0, e0, _, w0⟩ := DataW.trod_int Try.underlying3 q0_0
  obtain ⟨x1, e1, _, w1⟩ := DataW.trod_int Try.underlying22 q0_1
  obtain ⟨x2, e2, _, w2⟩ := DataW.trod_int Try.underlying3 q0_2
  obtain ⟨x3, e3, _, w3⟩ := DataW.trod_int Try.underlying3 q0_3
  simp at e0 e1 e2 e3
  subst e0 e1 e2 e3
  exact ⟨x0, x1, x2, x3, rfl, bounds_i64 w0, bounds_u64 w1, bounds_i64 w2, bounds_i64 w3⟩
set_option maxRecDepth 100000 in
theorem open_call20 {H : Type} {w : World} {base : Nat} {spare : Nat → Bool} {held : Bool} {enc : TypeId × Value → H} {r : Reach} {b0 : Nat} {v : Value} {d : DataW H} {p : List MemPlace} (hv : Value.okWide Try.prog w r b0 67 v) (h : DataW.Trod enc Try.prog w base spare held 67 v d p) :
    ∃ (x0 : Int) (x1 : Int) (x2 : Int) (x3 : Int), v = .agg #[.int .i64 x0, .int .u64 x1, .int .i64 x2, .int .i64 x3] ∧ (-9223372036854775808 ≤ x0 ∧ x0 ≤ 9223372036854775807) ∧ (0 ≤ x1 ∧ x1 ≤ 18446744073709551615) ∧ (-9223372036854775808 ≤ x2 ∧ x2 ≤ 9223372036854775807) ∧ (-9223372036854775808 ≤ x3 ∧ x3 ≤ 9223372036854775807) := by
  obtain ⟨cs, rfl, hsz⟩ := okWide_struct Try.underlying67 hv
  obtain ⟨l⟩ := cs
  obtain ⟨c0, c1, c2, c3, rfl⟩ := call20list4 (l := l) (hsz.trans (show Try.prog.cellsOf 67 = 4 by kernel_rfl))
  obtain ⟨fuel, hf⟩ := h
  obtain ⟨x0, x1, x2, x3, e, bs⟩ := cells_call20 (x := (d, p)) (show DataW.trod enc Try.prog w base spare held fuel 67 [c0, c1, c2, c3] = some (d, p) by simpa [Value.cells] using hf)
  simp at e
  obtain ⟨rfl, rfl, rfl, rfl⟩ := e
  exact ⟨x0, x1, x2, x3, rfl, bs⟩
/-- Structs that came in: each one's cells. -/
def Rows_call20 (w : World) (a : Option Addr) (len : Nat) : Prop :=
  len = 0 ∨ ∃ b off, a = some ⟨b, off, none⟩ ∧ b < w.heap.size ∧ ∀ i, i < len → ∃ (x0 : Int) (x1 : Int) (x2 : Int) (x3 : Int), (-9223372036854775808 ≤ x0 ∧ x0 ≤ 9223372036854775807) ∧ (0 ≤ x1 ∧ x1 ≤ 18446744073709551615) ∧ (-9223372036854775808 ≤ x2 ∧ x2 ≤ 9223372036854775807) ∧ (-9223372036854775808 ≤ x3 ∧ x3 ≤ 9223372036854775807) ∧ w.cell? ⟨b, off + i * 4, none⟩ = some (.int .i64 x0) ∧ w.cell? ⟨b, off + i * 4 + 1, none⟩ = some (.int .u64 x1) ∧ w.cell? ⟨b, off + i * 4 + 2, none⟩ = some (.int .i64 x2) ∧ w.cell? ⟨b, off + i * 4 + 3, none⟩ = some (.int .i64 x3)
theorem call20_cell_lt {w : World} {b o : Nat} {v : Value} (h : w.cell? ⟨b, o, none⟩ = some v) : b < w.heap.size := by
  by_cases hb : b < w.heap.size
  · exact hb
  · simp [World.cell?, Array.getElem?_eq_none (show w.heap.size ≤ b by omega)] at h
theorem call20_cell_add {w : World} {b off : Nat} {n j : Nat} {v : Option Value} (h : w.cell? (((⟨b, off, none⟩ : Addr).add n).add j) = v) : w.cell? ⟨b, off + n + j, none⟩ = v := by
  rw [Go.Deep.add_add] at h
  unfold Addr.add at h
  by_cases h0 : n + j = 0
  · have e1 : n = 0 := by omega
    have e2 : j = 0 := by omega
    subst e1 e2; simpa using h
  · rw [if_neg h0] at h
    rw [show off + n + j = off + (n + j) by omega]; exact h
theorem open_call20s {H : Type} {w : World} {base : Nat} {spare : Nat → Bool} {held : Bool} {enc : TypeId × Value → H} {s : Option Addr} {len cap fuel : Nat} {x : DataW H × List MemPlace} (h : DataW.trod enc Try.prog w base spare held fuel 78 [.slice s len cap] = some x) : Rows_call20 w s len ∧ len ≤ maxLen := by
  rcases Go.Deep.open_slice Try.underlying78 h with ⟨hcs, _⟩ | ⟨a, len', cap', m, n, D, Pl, hcs, hb, hl, hm, hmm, hx, hi⟩
  · simp at hcs
    obtain ⟨rfl, rfl, rfl⟩ := hcs
    exact ⟨.inl rfl, by unfold maxLen; omega⟩
  · simp at hcs
    obtain ⟨rfl, rfl, rfl⟩ := hcs
    refine ⟨?_, by omega⟩
    by_cases h0 : len = 0
    · exact .inl h0
    right
    have hlm : len ≤ m := by rw [hmm]; split <;> omega
    have kN : Try.prog.cellsOf 67 = 4 := by kernel_rfl
    rw [kN] at hi
    have hall : ∀ i, i < len → ∃ (x0 : Int) (x1 : Int) (x2 : Int) (x3 : Int), (-9223372036854775808 ≤ x0 ∧ x0 ≤ 9223372036854775807) ∧ (0 ≤ x1 ∧ x1 ≤ 18446744073709551615) ∧ (-9223372036854775808 ≤ x2 ∧ x2 ≤ 9223372036854775807) ∧ (-9223372036854775808 ≤ x3 ∧ x3 ≤ 9223372036854775807) ∧ ∀ j, j < 4 → w.cell? ((a.add (i * 4)).add j) = ([.int .i64 x0, .int .u64 x1, .int .i64 x2, .int .i64 x3] : List Value)[j]? := by
      intro i hil
      obtain ⟨cs', hc, ht⟩ := hi i (by omega)
      obtain ⟨_, hlen, hat⟩ := World.cells?_some hc
      obtain ⟨c0, c1, c2, c3, rfl⟩ := call20list4 hlen
      obtain ⟨x0, x1, x2, x3, e, n0, n1, n2, n3⟩ := cells_call20 ht
      rw [e] at hat
      exact ⟨x0, x1, x2, x3, n0, n1, n2, n3, hat⟩
    obtain ⟨b, off, spot⟩ := a
    obtain ⟨_, _, _, _, _, _, _, _, hc0⟩ := hall 0 (by omega)
    have hspot : spot = none := by
      have := hc0 0 (by omega)
      simpa [Addr.add] using World.cell?_spot (by simpa [Addr.add] using this)
    subst hspot
    refine ⟨b, off, rfl, call20_cell_lt (by have := call20_cell_add (hc0 0 (by omega)); simpa using this), fun i hil => ?_⟩
    obtain ⟨x0, x1, x2, x3, n0, n1, n2, n3, hc⟩ := hall i hil
    exact ⟨x0, x1, x2, x3, n0, n1, n2, n3, call20_cell_add (hc 0 (by omega)), call20_cell_add (hc 1 (by omega)), call20_cell_add (hc 2 (by omega)), call20_cell_add (hc 3 (by omega))⟩
theorem sk_sv' {m d n t : Int} (h : kd m d n ≠ 0) : sk m d n t = sv m d n t := by unfold sk; rw [if_neg h]
theorem nv0c : (#[.int .u64 (dg0 (0)), .int .u64 (dg1 (0)), .int .u64 (dg2 (0)), .int .u64 (dg3 (0))] : Array Value) = #[.int .u64 0, .int .u64 0, .int .u64 0, .int .u64 0] := by rfl
theorem story_len (m d n : Int) (L : List CL) : (storyR m d n L).ws.length ≤ L.length := by
  have key : ∀ (L : List CL) (st : ST), (L.foldl (stepR m d n) st).ws.length ≤ st.ws.length + L.length := by
    intro L
    induction L with
    | nil => intro st; simp
    | cons c L ih =>
      intro st
      have h1 := ih (stepR m d n st c)
      have h2 : (stepR m d n st c).ws.length ≤ st.ws.length + 1 := by
        unfold stepR; split
        · simp
        · split <;> simp
      simp only [List.foldl_cons, List.length_cons]; omega
  have h := key L ST0
  have h0 : ST0.ws.length = 0 := rfl
  unfold storyR; omega
theorem HoldC.own {w : World} {base n : Nat} {v : Value} {L : List CL} (h : HoldC w base v L) (hn : n = L.length) : w.ownsRow base 67 4 v n (flatc L) := by subst hn; exact h
theorem HoldC.below {w w' : World} {base : Nat} {v : Value} {ws : List CL} (h : HoldC w base v ws) (hb : Below w.heap.size w w') : HoldC w' base v ws :=
  World.ownsRow.kept (row := none) h ⟨hb.os, hb.tape, hb.output, hb.size, fun k hk _ => hb.block k hk⟩ (by
    cases ho : v.ownBlock with
    | none => exact .inl rfl
    | some k => right; simp)
theorem calls_news' {w : World} {a : Option Addr} {L : List CL} (h : CallsAt w a L) {A : Addr} (hA : a = some A) (j : Nat) (u : Value) (hj : (flatc L)[j]? = some u) : w.cell? (A.add j) = some u := by
  rcases h with h | ⟨b, off, e, _, hc⟩
  · subst h; simp [flatc] at hj
  · rw [hA] at e; cases e; exact calls_news hc j u hj
theorem calls_of {w : World} {a : Option Addr} {len : Nat} (h : Rows_call20 w a len) : ∃ L : List CL, L.length = len ∧ CallsAt w a L ∧ (a = none → len = 0) ∧ ∀ c ∈ L, c.ok := by
  rcases h with h | ⟨b, off, rfl, hB, hc⟩
  · subst h; exact ⟨[], rfl, .inl rfl, fun _ => rfl, by simp⟩
  · have key : ∀ n, n ≤ len → ∃ L : List CL, L.length = n ∧ (∀ i c, L[i]? = some c → w.cell? ⟨b, off + i * 4, none⟩ = some (.int .i64 c.k) ∧ w.cell? ⟨b, off + i * 4 + 1, none⟩ = some (.int .u64 c.x) ∧ w.cell? ⟨b, off + i * 4 + 2, none⟩ = some (.int .i64 c.s) ∧ w.cell? ⟨b, off + i * 4 + 3, none⟩ = some (.int .i64 c.h)) ∧ ∀ c ∈ L, c.ok := by
      intro n
      induction n with
      | zero => intro _; exact ⟨[], rfl, by simp, by simp⟩
      | succ n ih =>
        intro hn
        obtain ⟨L, hl, h1, h2⟩ := ih (by omega)
        obtain ⟨x0, x1, x2, x3, h0, h1', h2', h3', e0, e1, e2, e3⟩ := hc n (by omega)
        refine ⟨L ++ [⟨x0, x1, x2, x3⟩], by simp [hl], fun i c hi => ?_, fun c hcm => ?_⟩
        · by_cases hin : i < L.length
          · rw [List.getElem?_append_left hin] at hi; exact h1 i c hi
          · have hi' : i < (L ++ [(⟨x0, x1, x2, x3⟩ : CL)]).length := (List.getElem?_eq_some_iff.1 hi).1
            simp at hi'
            obtain rfl : i = n := by omega
            rw [List.getElem?_append_right (by omega), hl] at hi
            simp at hi; subst hi
            exact ⟨e0, e1, e2, e3⟩
        · rcases List.mem_append.1 hcm with hcm | hcm
          · exact h2 c hcm
          · simp at hcm; subst hcm; exact ⟨h0, h1', h2', h3'⟩
    obtain ⟨L, hl, h1, h2⟩ := key len (Nat.le_refl _)
    exact ⟨L, hl, .inr ⟨b, off, rfl, hB, h1⟩, fun h => by simp at h, h2⟩
set_option maxHeartbeats 4000000 in
theorem RL_outa (m d n mo : Int) (a : Option Addr) (len cap : Nat) (w : World) (hm : 0 ≤ m ∧ m ≤ 18446744073709551615) (hd : 0 ≤ d ∧ d ≤ 18446744073709551615) (hn : 0 ≤ n ∧ n ≤ 18446744073709551615) (h1 : 60 < len) :
    Calls Try.prog 11 #[.agg #[.int .u64 m, .int .u64 d, .int .u64 n], .slice a len cap, .int .u64 mo] w fun e w' => e = .returned (.bool true) ∧ Below w.heap.size w w' := by
  have d1 : decide ((60 : Int) < (len : Int)) = true := decide_eq_true (by omega)
  go_enter Try.func11, Try.ntmps11
  go_wp2_with fail
  refine (hundred20_true _).mono ?_
  rintro e w1 ⟨rfl, hb1⟩
  have g1 : Below w.heap.size w w1 := by refine Below.trans ?_ (hb1.mono ?_) <;> (repeat' (first | (with_reducible (first | exact Below.refl _ _ | assumption | refine below_drewN ?_ _ | refine Below.drew ?_ | refine Below.alloc ?_ ?_ _ | refine Below.setCell ?_ ?_ _)) | go_size))
  have hz1 := hb1.size
  (try simp at hz1)
  clear hb1
  go_wp2
  go_ret
  exact ⟨rfl, by (repeat' (first | (with_reducible (first | exact Below.refl _ _ | assumption | refine below_drewN ?_ _ | refine Below.drew ?_ | refine Below.alloc ?_ ?_ _ | refine Below.setCell ?_ ?_ _)) | go_size))⟩
set_option maxHeartbeats 4000000 in
theorem RL_outb (m d n mo : Int) (a : Option Addr) (len cap : Nat) (w : World) (hm : 0 ≤ m ∧ m ≤ 18446744073709551615) (hd : 0 ≤ d ∧ d ≤ 18446744073709551615) (hn : 0 ≤ n ∧ n ≤ 18446744073709551615) (h1 : len ≤ 60) (h2 : 1152921504606846976 < mo) :
    Calls Try.prog 11 #[.agg #[.int .u64 m, .int .u64 d, .int .u64 n], .slice a len cap, .int .u64 mo] w fun e w' => e = .returned (.bool true) ∧ Below w.heap.size w w' := by
  have d1 : decide ((60 : Int) < (len : Int)) = false := decide_eq_false (by omega)
  have d2 : decide (1152921504606846976 < mo) = true := decide_eq_true (by omega)
  go_enter Try.func11, Try.ntmps11
  go_wp2_with fail
  refine (hundred20_true _).mono ?_
  rintro e w1 ⟨rfl, hb1⟩
  have g1 : Below w.heap.size w w1 := by refine Below.trans ?_ (hb1.mono ?_) <;> (repeat' (first | (with_reducible (first | exact Below.refl _ _ | assumption | refine below_drewN ?_ _ | refine Below.drew ?_ | refine Below.alloc ?_ ?_ _ | refine Below.setCell ?_ ?_ _)) | go_size))
  have hz1 := hb1.size
  (try simp at hz1)
  clear hb1
  go_wp2
  go_ret
  exact ⟨rfl, by (repeat' (first | (with_reducible (first | exact Below.refl _ _ | assumption | refine below_drewN ?_ _ | refine Below.drew ?_ | refine Below.alloc ?_ ?_ _ | refine Below.setCell ?_ ?_ _)) | go_size))⟩
set_option maxHeartbeats 4000000 in
theorem RL_outc (m d n mo : Int) (a : Option Addr) (len cap : Nat) (w : World) (hm : 0 ≤ m ∧ m ≤ 18446744073709551615) (hd : 0 ≤ d ∧ d ≤ 18446744073709551615) (hn : 0 ≤ n ∧ n ≤ 18446744073709551615) (h1 : len ≤ 60) (h2 : mo ≤ 1152921504606846976) (hk : (kd m d n != 0) = false) :
    Calls Try.prog 11 #[.agg #[.int .u64 m, .int .u64 d, .int .u64 n], .slice a len cap, .int .u64 mo] w fun e w' => e = .returned (.bool true) ∧ Below w.heap.size w w' := by
  have d1 : decide ((60 : Int) < (len : Int)) = false := decide_eq_false (by omega)
  have d2 : decide (1152921504606846976 < mo) = false := decide_eq_false (by omega)
  have HK := hide hk; clear hk
  go_enter Try.func11, Try.ntmps11
  go_wp2_with (first | (go_at_call 19; refine (crightC m d n _ ⟨hm.1, hd.1, hn.1⟩ false HK.out).mono ?_; rintro e w' ⟨rfl, hb'⟩; have hbx : Below w.heap.size w w' := (by refine Below.trans ?_ (Below.mono hb' ?_) <;> (repeat' (first | (with_reducible (first | exact Below.refl _ _ | assumption | refine below_drewN ?_ _ | refine Below.drew ?_ | refine Below.alloc ?_ ?_ _ | refine Below.setCell ?_ ?_ _)) | go_size))); have hbs := hb'.size; (try simp at hbs); have hkC : Blk w' (w.heap.size) #[.int .u64 m, .int .u64 d, .int .u64 n] 24 := Blk.below (by (repeat' (first | (with_reducible (first | assumption | exact Blk.alloc_new _ _ _ (by first | rfl | (simp; done) | omega) | apply Blk.drewN | apply Blk.drew | apply Blk.alloc_old | apply Blk.set_same | apply Blk.set_other)) | (show (_ : Nat) ≠ _; first | omega | (simp; done) | (simp; omega)) | ((simp only [List.setIfInBounds_toArray, List.set_cons_succ, List.set_cons_zero]); (with_reducible exact rfl)) | (with_reducible exact rfl) | (show (_ : Array Value) = _; exact rfl)))) hb' (by first | (simp; done) | omega | (simp; omega)); have cC := hkC.cell; have fC := hkC.frozen; have zC := hkC.size; skip; clear hb'))
  refine (hundred20_true _).mono ?_
  rintro e w1 ⟨rfl, hb1⟩
  have C1 : Blk w1 (w.heap.size) #[.int .u64 m, .int .u64 d, .int .u64 n] 24 := Blk.below (by (repeat' (first | (with_reducible (first | assumption | exact Blk.alloc_new _ _ _ (by first | rfl | (simp; done) | omega) | apply Blk.drewN | apply Blk.drew | apply Blk.alloc_old | apply Blk.set_same | apply Blk.set_other)) | (show (_ : Nat) ≠ _; first | omega | (simp; done) | (simp; omega)) | ((simp only [List.setIfInBounds_toArray, List.set_cons_succ, List.set_cons_zero]); (with_reducible exact rfl)) | (with_reducible exact rfl) | (show (_ : Array Value) = _; exact rfl)))) hb1 (by first | (simp; done) | omega | (simp; omega))
  have g1 : Below w.heap.size w w1 := by refine Below.trans ?_ (hb1.mono ?_) <;> (repeat' (first | (with_reducible (first | exact Below.refl _ _ | assumption | refine below_drewN ?_ _ | refine Below.drew ?_ | refine Below.alloc ?_ ?_ _ | refine Below.setCell ?_ ?_ _)) | go_size))
  have hz1 := hb1.size
  (try simp at hz1)
  clear hb1
  replace cC := C1.cell
  replace fC := C1.frozen
  replace zC := C1.size
  go_wp2
  go_ret
  exact ⟨rfl, by (repeat' (first | (with_reducible (first | exact Below.refl _ _ | assumption | refine below_drewN ?_ _ | refine Below.drew ?_ | refine Below.alloc ?_ ?_ _ | refine Below.setCell ?_ ?_ _)) | go_size))⟩
def LK (m d n x : Int) : List WN → Int
  | [] => 0
  | w0 :: r => lst m d n x w0 r
theorem LK_snoc (m d n x : Int) (l : List WN) (v : WN) : LK m d n x (l ++ [v]) = if l = [] then v.val m d n x else if v.val m d n x < LK m d n x l then v.val m d n x else LK m d n x l := by
  cases l with
  | nil => rfl
  | cons w0 r => rw [if_neg (List.cons_ne_nil _ _)]; exact lst_snoc m d n x w0 r v
theorem take_snocw {ws : List WN} {k : Nat} {v : WN} (h : ws[k]? = some v) : ws.take (k + 1) = ws.take k ++ [v] := by
  obtain ⟨hk, e⟩ := List.getElem?_eq_some_iff.1 h
  rw [List.take_succ_eq_append_getElem hk, e]
theorem HoldW.len {w : World} {base : Nat} {v : Value} {ws : List WN} (h : HoldW w base v ws) (hw : 0 < ws.length) : ∃ g cp, v = .slice (some ⟨g, 0, none⟩) ws.length cp ∧ base ≤ g ∧ g < w.heap.size := by
  obtain ⟨g, cp, h1, h2, h3, _⟩ := h.read hw
  exact ⟨g, cp, h1, h2, h3⟩
theorem HoldW.keptg {w w' : World} {base L g n cp : Nat} {ws : List WN} (h : HoldW w base (.slice (some ⟨g, 0, none⟩) n cp) ws) (hk : KeptBut L w w') (hL : g < L) : HoldW w' base (.slice (some ⟨g, 0, none⟩) n cp) ws :=
  World.ownsRow.kept (row := some L) h ⟨hk.1.os, hk.1.tape, hk.1.output, hk.1.size, fun k hlt hne => hk.2 k hlt fun e => hne (by rw [e])⟩ (by right; simp [Value.ownBlock]; omega)
def LLRel (m d n x : Int) (st : ST) (NX NE B : Nat) (s : Value) (w : World) (i : Value) (wr : World) : Prop := ∃ (k : Nat) (e : Int), k ≤ st.ws.length ∧ i = .int .i64 k ∧ Below w.heap.size w wr ∧ Blk wr (w.heap.size) #[.int .u64 m, .int .u64 d, .int .u64 n] 24 ∧ Blk wr NX #[.bool st.l.has, .int .u64 st.l.D.f.X, .int .u64 (hi (st.l.D.f.Y)), .int .u64 (lo (st.l.D.f.Y)), .int .u64 st.l.D.f.M, .int .u64 st.l.D.t.X, .int .u64 (hi (st.l.D.t.Y)), .int .u64 (lo (st.l.D.t.Y)), .int .u64 st.l.D.t.M, .bool st.l.D.b, .int .u64 st.l.E.f.X, .int .u64 (hi (st.l.E.f.Y)), .int .u64 (lo (st.l.E.f.Y)), .int .u64 st.l.E.f.M, .int .u64 st.l.E.t.X, .int .u64 (hi (st.l.E.t.Y)), .int .u64 (lo (st.l.E.t.Y)), .int .u64 st.l.E.t.M, .bool st.l.E.b, .int .u64 st.l.p, .int .u64 st.l.e, .int .u64 st.l.t] 65 ∧ Blk wr NE #[.int .u64 (dg0 (e)), .int .u64 (dg1 (e)), .int .u64 (dg2 (e)), .int .u64 (dg3 (e))] 31 ∧ HoldW wr B s st.ws ∧ In128 e ∧ Hid (0 < k → LK m d n x (st.ws.take k) = e)
set_option maxRecDepth 100000 in
set_option maxHeartbeats 16000000 in
theorem RL_main (m d n mo : Int) (a : Option Addr) (len cap : Nat) (L : List CL) (st : ST) (w : World) (hm : 0 ≤ m ∧ m ≤ 18446744073709551615) (hd : 0 ≤ d ∧ d ≤ 18446744073709551615) (hn : 0 ≤ n ∧ n ≤ 18446744073709551615) (h2 : 0 ≤ mo ∧ mo ≤ 1152921504606846976) (hk : (kd m d n != 0) = true) (hc1 : CIn m d n) (hL : L.length = len) (h1 : len ≤ 60) (hc : CallsAt w a L) (hnil0 : a = none → len = 0) (ok : ∀ c ∈ L, c.ok) (hS : storyR m d n (⟨0, 0, 0, 0⟩ :: L) = st)
    (t0 : 0 ≤ st.now ∧ st.now ≤ 1152921504606846976) (oD : st.l.D.ok) (hws : ∀ v ∈ st.ws, (0 ≤ v.p ∧ v.p ≤ 1048576) ∧ (0 ≤ v.at_ ∧ v.at_ ≤ st.now)) (hat : st.l.D.at (st.now + d + mo) = LK m d n (st.now + d + mo) st.ws) (hpos : 0 < st.ws.length) (hwl : st.ws.length ≤ 1000) :
    Calls Try.prog 11 #[.agg #[.int .u64 m, .int .u64 d, .int .u64 n], .slice a len cap, .int .u64 mo] w fun e w' => e = .returned (.bool true) ∧ Below w.heap.size w w' := by
  have Hws := hide hws; have Hat := hide hat; have Hk1 := hide hc1
  have yd : 0 ≤ d ∧ d ≤ 1048576 := hc1.2.2.1
  have hx0 : 0 ≤ st.now + d + mo ∧ st.now + d + mo ≤ 4611686018427387904 := by omega
  clear hws hat hc1
  subst hL
  have Hc := hide hc; have hnil := hide hnil0; have HS := hide hS; have HK := hide hk
  have Ok := hide (show ∀ c ∈ ⟨0, 0, 0, 0⟩ :: L, c.ok from by
    intro c hcm
    have hcm := hcm
    · rcases List.mem_cons.1 hcm with rfl | hcm
      · unfold CL.ok; simp
      · exact ok c hcm
    )
  clear hc hnil0 hS hk ok
  obtain ⟨io, hio, hz0, hz1, hz2⟩ := info_parts info_call
  have Jio := hide hio; have Jz0 := hide hz0; have Jz1 := hide hz1; have Jz2 := hide hz2
  clear hio hz0 hz1 hz2
  have d1 : decide ((60 : Int) < (L.length : Int)) = false := decide_eq_false (by omega)
  have d2 : decide (1152921504606846976 < mo) = false := decide_eq_false (by omega)
  go_enter Try.func11, Try.ntmps11
  go_wp2_with fail
  refine (crightC m d n _ ⟨hm.1, hd.1, hn.1⟩ true HK.out).mono ?_
  rintro e w1 ⟨rfl, hb1⟩
  have C1 : Blk w1 (w.heap.size) #[.int .u64 m, .int .u64 d, .int .u64 n] 24 := Blk.below (by (repeat' (first | (with_reducible (first | assumption | exact Blk.alloc_new _ _ _ (by first | rfl | (simp; done) | omega) | apply Blk.drewN | apply Blk.drew | apply Blk.alloc_old | apply Blk.set_same | apply Blk.set_other)) | (show (_ : Nat) ≠ _; first | omega | (simp; done) | (simp; omega)) | ((simp only [List.setIfInBounds_toArray, List.set_cons_succ, List.set_cons_zero]); (with_reducible exact rfl)) | (with_reducible exact rfl) | (show (_ : Array Value) = _; exact rfl)))) hb1 (by first | (simp; done) | omega | (simp; omega))
  have g1 : Below w.heap.size w w1 := by refine Below.trans ?_ (hb1.mono ?_) <;> (repeat' (first | (with_reducible (first | exact Below.refl _ _ | assumption | refine below_drewN ?_ _ | refine Below.drew ?_ | refine Below.alloc ?_ ?_ _ | refine Below.setCell ?_ ?_ _)) | go_size))
  have hz1 := hb1.size
  (try simp at hz1)
  clear hb1
  have cC := C1.cell
  have fC := C1.frozen
  have zC := C1.size
  go_wp2_with (first | (refine wpList_append_lies _ (by rfl) (.tmp 29) (.tmp 31) 78 (by rfl) (w.heap.size + 1) 67 io (.agg #[.int .i64 0, .int .u64 0, .int .i64 0, .int .i64 0]) 4 32 Try.underlying78 Jio.out Jz0.out Jz1.out Jz2.out (by rfl) (by omega) (Value.slice none 0 0) (0) (flatc (([] : List CL))) (by rfl) (⟨rfl, .inl ⟨rfl, rfl⟩⟩) ⟨w1.heap.size, 0, none⟩ 1 1 [.int .i64 0, .int .u64 0, .int .i64 0, .int .i64 0] (by rfl) (by rfl) (World.news_of_block (show Blk _ (w1.heap.size) (#[.int .i64 0, .int .u64 0, .int .i64 0, .int .i64 0]) 67 from (by (repeat' (first | (with_reducible (first | assumption | exact Blk.alloc_new _ _ _ (by first | rfl | (simp; done) | omega) | apply Blk.drewN | apply Blk.drew | apply Blk.alloc_old | apply Blk.set_same | apply Blk.set_other)) | (show (_ : Nat) ≠ _; first | omega | (simp; done) | (simp; omega)) | ((simp only [List.setIfInBounds_toArray, List.set_cons_succ, List.set_cons_zero]); (with_reducible exact rfl)) | (with_reducible exact rfl) | (show (_ : Array Value) = _; exact rfl)))))) (flatc_one [⟨0, 0, 0, 0⟩]) (by omega) (by unfold maxLen; omega) (by omega) (by first | omega | (simp; omega)) _ rfl ?_; intro gg3 cap3 w3 hown3 hgrow3 hat3 hlt3; have hne3 : some w.heap.size ≠ (Value.slice none 0 0).ownBlock := (by intro h; cases h); have g3 : Below w.heap.size w w3 := below_grown (by (repeat' (first | (with_reducible (first | exact Below.refl _ _ | assumption | refine below_drewN ?_ _ | refine Below.drew ?_ | refine Below.alloc ?_ ?_ _ | refine Below.setCell ?_ ?_ _)) | go_size))) hgrow3 (by first | omega | (simp; omega)) (fun _ h => by cases h); have C3 : Blk w3 w.heap.size #[.int .u64 m, .int .u64 d, .int .u64 n] 24 := Blk.grown (by (repeat' (first | (with_reducible (first | assumption | exact Blk.alloc_new _ _ _ (by first | rfl | (simp; done) | omega) | apply Blk.drewN | apply Blk.drew | apply Blk.alloc_old | apply Blk.set_same | apply Blk.set_other)) | (show (_ : Nat) ≠ _; first | omega | (simp; done) | (simp; omega)) | ((simp only [List.setIfInBounds_toArray, List.set_cons_succ, List.set_cons_zero]); (with_reducible exact rfl)) | (with_reducible exact rfl) | (show (_ : Array Value) = _; exact rfl)))) hgrow3 hne3; replace cC := C3.cell; replace fC := C3.frozen; replace zC := C3.size; have H3 : HoldC w3 (w.heap.size + 1) (.slice (some ⟨gg3, 0, none⟩) (1) cap3) ([⟨0, 0, 0, 0⟩]) := (hown3); clear hat3 hgrow3 hown3) | (refine wpList_append_any (by rfl) (.tmp 33) (.tmp 34) 78 (by rfl) (w.heap.size + 1) 67 io (.agg #[.int .i64 0, .int .u64 0, .int .i64 0, .int .i64 0]) 4 32 Try.underlying78 Jio.out Jz0.out Jz1.out Jz2.out (by rfl) (by omega) (Value.slice (some ⟨gg3, 0, none⟩) (1) cap3) 1 (flatc [⟨0, 0, 0, 0⟩]) (by rfl) H3 (by omega) a L.length cap (flatc L) (by rfl) (flatc_len L) hnil.out (fun A hA => calls_news' (Hc.out.below (by (repeat' (first | (with_reducible (first | exact Below.refl _ _ | assumption | refine below_drewN ?_ _ | refine Below.drew ?_ | refine Below.alloc ?_ ?_ _ | refine Below.setCell ?_ ?_ _)) | go_size)))) hA) (flatc_one L) (by unfold maxLen; omega) (by omega) (by first | omega | (simp; omega)) ?_; intro gg4 cap4 w4 hown4 hgrow4 hlt4; have hb3 : w.heap.size + 1 ≤ gg3 := (World.ownsRow.lt H3 gg3 rfl).1; have hne4 : some w.heap.size ≠ (Value.slice (some ⟨gg3, 0, none⟩) (1) cap3).ownBlock := (by intro e; simp [Value.ownBlock] at e; omega); have g4 : Below w.heap.size w w4 := below_grown (by (repeat' (first | (with_reducible (first | exact Below.refl _ _ | assumption | refine below_drewN ?_ _ | refine Below.drew ?_ | refine Below.alloc ?_ ?_ _ | refine Below.setCell ?_ ?_ _)) | go_size))) hgrow4 (by first | omega | (simp; omega)) (fun K hK => by simp [Value.ownBlock] at hK; omega); have C4 : Blk w4 w.heap.size #[.int .u64 m, .int .u64 d, .int .u64 n] 24 := Blk.grown (by (repeat' (first | (with_reducible (first | assumption | exact Blk.alloc_new _ _ _ (by first | rfl | (simp; done) | omega) | apply Blk.drewN | apply Blk.drew | apply Blk.alloc_old | apply Blk.set_same | apply Blk.set_other)) | (show (_ : Nat) ≠ _; first | omega | (simp; done) | (simp; omega)) | ((simp only [List.setIfInBounds_toArray, List.set_cons_succ, List.set_cons_zero]); (with_reducible exact rfl)) | (with_reducible exact rfl) | (show (_ : Array Value) = _; exact rfl)))) hgrow4 hne4; replace cC := C4.cell; replace fC := C4.frozen; replace zC := C4.size; have H4 : HoldC w4 (w.heap.size + 1) (Value.slice (some ⟨gg4, 0, none⟩) (1 + L.length) cap4) (⟨0, 0, 0, 0⟩ :: L) := (by unfold HoldC; rw [show (⟨0, 0, 0, 0⟩ :: L : List CL).length = 1 + L.length by simp; omega]; exact hown4); clear hgrow4 hown4))
  refine (story_any m d n _ (1 + L.length) _ _ st _ hm hd hn (by simp; omega) (by omega) (H4.at_ (by simp; omega)) Ok.out HS.out).mono ?_
  rintro e w6 ⟨v, rfl, H6, hb6⟩
  have C6 : Blk w6 (w.heap.size) #[.int .u64 m, .int .u64 d, .int .u64 n] 24 := Blk.below (by (repeat' (first | (with_reducible (first | assumption | exact Blk.alloc_new _ _ _ (by first | rfl | (simp; done) | omega) | apply Blk.drewN | apply Blk.drew | apply Blk.alloc_old | apply Blk.set_same | apply Blk.set_other)) | (show (_ : Nat) ≠ _; first | omega | (simp; done) | (simp; omega)) | ((simp only [List.setIfInBounds_toArray, List.set_cons_succ, List.set_cons_zero]); (with_reducible exact rfl)) | (with_reducible exact rfl) | (show (_ : Array Value) = _; exact rfl)))) hb6 (by first | (simp; done) | omega | (simp; omega))
  have g6 : Below w.heap.size w w6 := by refine Below.trans ?_ (hb6.mono ?_) <;> (repeat' (first | (with_reducible (first | exact Below.refl _ _ | assumption | refine below_drewN ?_ _ | refine Below.drew ?_ | refine Below.alloc ?_ ?_ _ | refine Below.setCell ?_ ?_ _)) | go_size))
  have hz6 := hb6.size
  (try simp at hz6)
  clear hb6
  replace cC := C6.cell
  replace fC := C6.frozen
  replace zC := C6.size
  have hw6 : w.heap.size < w6.heap.size := zC
  obtain ⟨g, cp, rfl, hgb, hgl⟩ := H6.len hpos
  obtain ⟨BS, hBS⟩ : ∃ B, w4.heap.size + 1 + 1 + 1 = B := ⟨_, rfl⟩
  rw [hBS] at H6
  go_upto_region 9 with (refine store_blk 65 (.tmp 8) (.tmp 40) (w6.heap.size) #[.bool false, .int .u64 0, .int .u64 0, .int .u64 0, .int .u64 0, .int .u64 0, .int .u64 0, .int .u64 0, .int .u64 0, .bool false, .int .u64 0, .int .u64 0, .int .u64 0, .int .u64 0, .int .u64 0, .int .u64 0, .int .u64 0, .int .u64 0, .bool false, .int .u64 0, .int .u64 0, .int .u64 0] #[.bool st.l.has, .int .u64 st.l.D.f.X, .int .u64 (hi (st.l.D.f.Y)), .int .u64 (lo (st.l.D.f.Y)), .int .u64 st.l.D.f.M, .int .u64 st.l.D.t.X, .int .u64 (hi (st.l.D.t.Y)), .int .u64 (lo (st.l.D.t.Y)), .int .u64 st.l.D.t.M, .bool st.l.D.b, .int .u64 st.l.E.f.X, .int .u64 (hi (st.l.E.f.Y)), .int .u64 (lo (st.l.E.f.Y)), .int .u64 st.l.E.f.M, .int .u64 st.l.E.t.X, .int .u64 (hi (st.l.E.t.Y)), .int .u64 (lo (st.l.E.t.Y)), .int .u64 st.l.E.t.M, .bool st.l.E.b, .int .u64 st.l.p, .int .u64 st.l.e, .int .u64 st.l.t] 65 (by rfl) (by rfl) (by rfl) (by rfl) (by (repeat' (first | (with_reducible (first | assumption | exact Blk.alloc_new _ _ _ (by first | rfl | (simp; done) | omega) | apply Blk.drewN | apply Blk.drew | apply Blk.alloc_old | apply Blk.set_same | apply Blk.set_other)) | (show (_ : Nat) ≠ _; first | omega | (simp; done) | (simp; omega)) | ((simp only [List.setIfInBounds_toArray, List.set_cons_succ, List.set_cons_zero]); (with_reducible exact rfl)) | (with_reducible exact rfl) | (show (_ : Array Value) = _; exact rfl)))) rfl (by kernel_rfl) (by simp [Value.oneCell']) ?_; intro w7 X7 kB7 kO7 hs7; have g7 : Below w.heap.size w w7 := kB7 _ _ (by first | (simp; done) | omega | (simp; omega)) (by (repeat' (first | (with_reducible (first | exact Below.refl _ _ | assumption | refine below_drewN ?_ _ | refine Below.drew ?_ | refine Below.alloc ?_ ?_ _ | refine Below.setCell ?_ ?_ _)) | go_size))); have H7 : HoldW w7 BS (.slice (some ⟨g, 0, none⟩) st.ws.length cp) st.ws := H6.below (kB7 _ _ (Nat.le_refl _) (by (repeat' (first | (with_reducible (first | exact Below.refl _ _ | assumption | refine below_drewN ?_ _ | refine Below.drew ?_ | refine Below.alloc ?_ ?_ _ | refine Below.setCell ?_ ?_ _)) | go_size)))); have C7 := kO7 (w.heap.size) #[.int .u64 m, .int .u64 d, .int .u64 n] 24 (by first | (simp; done) | omega | (simp; omega)) (by (repeat' (first | (with_reducible (first | assumption | exact Blk.alloc_new _ _ _ (by first | rfl | (simp; done) | omega) | apply Blk.drewN | apply Blk.drew | apply Blk.alloc_old | apply Blk.set_same | apply Blk.set_other)) | (show (_ : Nat) ≠ _; first | omega | (simp; done) | (simp; omega)) | ((simp only [List.setIfInBounds_toArray, List.set_cons_succ, List.set_cons_zero]); (with_reducible exact rfl)) | (with_reducible exact rfl) | (show (_ : Array Value) = _; exact rfl)))); have cX := X7.cell; have fX := X7.frozen; have zX := X7.size; replace cC := C7.cell; replace fC := C7.frozen; replace zC := C7.size)
  have hw7 : w6.heap.size < w7.heap.size := zX
  have hs7' : w7.heap.size = w6.heap.size + 1 := by simpa using hs7
  clear kB7 kO7 hs7 H6 H4 H3
  go_wp2_with fail
  go_loopw [51] (fun i wr => LLRel m d n (st.now + d + mo) st (w6.heap.size) (w6.heap.size + 1) BS (.slice (some ⟨g, 0, none⟩) st.ws.length cp) w i wr) (fun i _ => st.ws.length - (intOf i).toNat)
  case atStart => exact ⟨0, 0, Nat.zero_le _, rfl, by (repeat' (first | (with_reducible (first | exact Below.refl _ _ | assumption | refine below_drewN ?_ _ | refine Below.drew ?_ | refine Below.alloc ?_ ?_ _ | refine Below.setCell ?_ ?_ _)) | go_size)), by (repeat' (first | (with_reducible (first | assumption | exact Blk.alloc_new _ _ _ (by first | rfl | (simp; done) | omega) | apply Blk.drewN | apply Blk.drew | apply Blk.alloc_old | apply Blk.set_same | apply Blk.set_other)) | (show (_ : Nat) ≠ _; first | omega | (simp; done) | (simp; omega)) | ((simp only [List.setIfInBounds_toArray, List.set_cons_succ, List.set_cons_zero]); (with_reducible exact rfl)) | (with_reducible exact rfl) | (show (_ : Array Value) = _; exact rfl))), by (repeat' (first | (with_reducible (first | assumption | exact Blk.alloc_new _ _ _ (by first | rfl | (simp; done) | omega) | apply Blk.drewN | apply Blk.drew | apply Blk.alloc_old | apply Blk.set_same | apply Blk.set_other)) | (show (_ : Nat) ≠ _; first | omega | (simp; done) | (simp; omega)) | ((simp only [List.setIfInBounds_toArray, List.set_cons_succ, List.set_cons_zero]); (with_reducible exact rfl)) | (with_reducible exact rfl) | (show (_ : Array Value) = _; exact rfl))), by rw [nv0c]; (repeat' (first | (with_reducible (first | assumption | exact Blk.alloc_new _ _ _ (by first | rfl | (simp; done) | omega) | apply Blk.drewN | apply Blk.drew | apply Blk.alloc_old | apply Blk.set_same | apply Blk.set_other)) | (show (_ : Nat) ≠ _; first | omega | (simp; done) | (simp; omega)) | ((simp only [List.setIfInBounds_toArray, List.set_cons_succ, List.set_cons_zero]); (with_reducible exact rfl)) | (with_reducible exact rfl) | (show (_ : Array Value) = _; exact rfl))), H7.below (by (repeat' (first | (with_reducible (first | exact Below.refl _ _ | assumption | refine below_drewN ?_ _ | refine Below.drew ?_ | refine Below.alloc ?_ ?_ _ | refine Below.setCell ?_ ?_ _)) | go_size))), by unfold In128; omega, fun h => absurd h (by omega)⟩
  case round =>
    clear X7 H7 C7 g7 cX fX zX cC fC zC
    obtain ⟨k, e, hk, rfl, g0, C0, X0, E0, H0, ie, Hl⟩ := hrel
    have cC := C0.cell; have fC := C0.frozen; have zC := C0.size
    have cX := X0.cell; have fX := X0.frozen; have zX := X0.size
    have cE := E0.cell; have fE := E0.frozen; have zE := E0.size
    have nxr : w6.heap.size < wr.heap.size := zX
    have ner : w6.heap.size + 1 < wr.heap.size := zE
    have nwr : w.heap.size < wr.heap.size := zC
    have hk1000 : (k : Int) ≤ 1000 := by omega
    by_cases hlt0 : k < st.ws.length
    · obtain ⟨vq, hv⟩ : ∃ v, st.ws[k]? = some v := ⟨_, List.getElem?_eq_getElem hlt0⟩
      obtain ⟨v0, v1⟩ := H0.at_ hv
      obtain ⟨r0, r1⟩ := Hws.out vq (List.mem_of_getElem? hv)
      obtain ⟨q, hq⟩ : ∃ q, vq.p * 65536 = q := ⟨_, rfl⟩
      have iq : In128 q := by rw [← hq]; unfold In128; omega
      have hq9 : 0 ≤ q ∧ q ≤ 68719476736 := by omega
      obtain ⟨s, hs⟩ : ∃ s, sk m d n (st.now + d + mo - vq.at_) = s := ⟨_, rfl⟩
      have is : In128 s := by rw [← hs]; exact sk_in hm.1 hd.1 hn.1 (by omega) (by omega)
      have hsr : 0 ≤ s ∧ s ≤ 4294967295 * (st.now + d + mo - vq.at_) := by rw [← hs]; exact sk_rng hm.1 hd.1 hn.1 (by omega)
      obtain ⟨r, hr⟩ : ∃ r, q + s = r := ⟨_, rfl⟩
      have hval : vq.val m d n (st.now + d + mo) = r := by unfold WN.val; rw [hq, ← hr, ← hs, sk_sv' Hk1.out.1]
      have ir : In128 r := by rw [← hr]; unfold In128; omega
      have hm128 : m128 (q + s) = r := by rw [hr]; exact m128_of ir
      have Hq := hide hq; have Hs := hide hs; have Hr := hide hm128
      have Hsn := hide (LK_snoc m d n (st.now + d + mo) (st.ws.take k) vq)
      have Htk := hide (take_snocw hv)
      have Hval := hide hval
      have hne : 0 < k → st.ws.take k ≠ [] := fun h0 e => by
        have h5 : (st.ws.take k).length = 0 := by rw [e]; rfl
        rw [List.length_take] at h5; omega
      have Hne := hide hne
      have hws1 : IntKind.u64.wrap (st.now + d + mo - vq.at_) = st.now + d + mo - vq.at_ := IntWalk.u64_in _ ⟨by omega, by omega⟩
      clear hq hs hr hm128 hval hne
      go_upto_region 12 with (fail)
      refine wp_forget (fun v => Below wr.heap.size wr v ∧ Blk v (w.heap.size) #[.int .u64 m, .int .u64 d, .int .u64 n] 24 ∧ Blk v (w6.heap.size) #[.bool st.l.has, .int .u64 st.l.D.f.X, .int .u64 (hi (st.l.D.f.Y)), .int .u64 (lo (st.l.D.f.Y)), .int .u64 st.l.D.f.M, .int .u64 st.l.D.t.X, .int .u64 (hi (st.l.D.t.Y)), .int .u64 (lo (st.l.D.t.Y)), .int .u64 st.l.D.t.M, .bool st.l.D.b, .int .u64 st.l.E.f.X, .int .u64 (hi (st.l.E.f.Y)), .int .u64 (lo (st.l.E.f.Y)), .int .u64 st.l.E.f.M, .int .u64 st.l.E.t.X, .int .u64 (hi (st.l.E.t.Y)), .int .u64 (lo (st.l.E.t.Y)), .int .u64 st.l.E.t.M, .bool st.l.E.b, .int .u64 st.l.p, .int .u64 st.l.e, .int .u64 st.l.t] 65 ∧ Blk v (w6.heap.size + 1) #[.int .u64 (dg0 (e)), .int .u64 (dg1 (e)), .int .u64 (dg2 (e)), .int .u64 (dg3 (e))] 31 ∧ Blk v (wr.heap.size) #[.int .u64 vq.at_, .int .u64 vq.p] 84) ⟨by (repeat' (first | (with_reducible (first | exact Below.refl _ _ | assumption | refine below_drewN ?_ _ | refine Below.drew ?_ | refine Below.alloc ?_ ?_ _ | refine Below.setCell ?_ ?_ _)) | go_size)), by (repeat' (first | (with_reducible (first | assumption | exact Blk.alloc_new _ _ _ (by first | rfl | (simp; done) | omega) | apply Blk.drewN | apply Blk.drew | apply Blk.alloc_old | apply Blk.set_same | apply Blk.set_other)) | (show (_ : Nat) ≠ _; first | omega | (simp; done) | (simp; omega)) | ((simp only [List.setIfInBounds_toArray, List.set_cons_succ, List.set_cons_zero]); (with_reducible exact rfl)) | (with_reducible exact rfl) | (show (_ : Array Value) = _; exact rfl))), by (repeat' (first | (with_reducible (first | assumption | exact Blk.alloc_new _ _ _ (by first | rfl | (simp; done) | omega) | apply Blk.drewN | apply Blk.drew | apply Blk.alloc_old | apply Blk.set_same | apply Blk.set_other)) | (show (_ : Nat) ≠ _; first | omega | (simp; done) | (simp; omega)) | ((simp only [List.setIfInBounds_toArray, List.set_cons_succ, List.set_cons_zero]); (with_reducible exact rfl)) | (with_reducible exact rfl) | (show (_ : Array Value) = _; exact rfl))), by (repeat' (first | (with_reducible (first | assumption | exact Blk.alloc_new _ _ _ (by first | rfl | (simp; done) | omega) | apply Blk.drewN | apply Blk.drew | apply Blk.alloc_old | apply Blk.set_same | apply Blk.set_other)) | (show (_ : Nat) ≠ _; first | omega | (simp; done) | (simp; omega)) | ((simp only [List.setIfInBounds_toArray, List.set_cons_succ, List.set_cons_zero]); (with_reducible exact rfl)) | (with_reducible exact rfl) | (show (_ : Array Value) = _; exact rfl))), by (repeat' (first | (with_reducible (first | assumption | exact Blk.alloc_new _ _ _ (by first | rfl | (simp; done) | omega) | apply Blk.drewN | apply Blk.drew | apply Blk.alloc_old | apply Blk.set_same | apply Blk.set_other)) | (show (_ : Nat) ≠ _; first | omega | (simp; done) | (simp; omega)) | ((simp only [List.setIfInBounds_toArray, List.set_cons_succ, List.set_cons_zero]); (with_reducible exact rfl)) | (with_reducible exact rfl) | (show (_ : Array Value) = _; exact rfl)))⟩ ?_
      rintro w8 ⟨g8, C8, X8, E8, S8⟩
      have hz8 := g8.size
      replace cC := C8.cell
      replace fC := C8.frozen
      replace zC := C8.size
      replace cX := X8.cell
      replace fX := X8.frozen
      replace zX := X8.size
      replace cE := E8.cell
      replace fE := E8.frozen
      replace zE := E8.size
      have cS := S8.cell
      have fS := S8.frozen
      have zS := S8.size
      go_cut [15] (fun p15 wx => ∃ X, p15 = .pointer (some ⟨X, 0, none⟩) ∧ wr.heap.size < X ∧ Below wr.heap.size wr wx ∧ Blk wx (w.heap.size) #[.int .u64 m, .int .u64 d, .int .u64 n] 24 ∧ Blk wx (w6.heap.size) #[.bool st.l.has, .int .u64 st.l.D.f.X, .int .u64 (hi (st.l.D.f.Y)), .int .u64 (lo (st.l.D.f.Y)), .int .u64 st.l.D.f.M, .int .u64 st.l.D.t.X, .int .u64 (hi (st.l.D.t.Y)), .int .u64 (lo (st.l.D.t.Y)), .int .u64 st.l.D.t.M, .bool st.l.D.b, .int .u64 st.l.E.f.X, .int .u64 (hi (st.l.E.f.Y)), .int .u64 (lo (st.l.E.f.Y)), .int .u64 st.l.E.f.M, .int .u64 st.l.E.t.X, .int .u64 (hi (st.l.E.t.Y)), .int .u64 (lo (st.l.E.t.Y)), .int .u64 st.l.E.t.M, .bool st.l.E.b, .int .u64 st.l.p, .int .u64 st.l.e, .int .u64 st.l.t] 65 ∧ Blk wx (w6.heap.size + 1) #[.int .u64 (dg0 (e)), .int .u64 (dg1 (e)), .int .u64 (dg2 (e)), .int .u64 (dg3 (e))] 31 ∧ Blk wx (wr.heap.size) #[.int .u64 vq.at_, .int .u64 vq.p] 84 ∧ Blk wx X #[.int .u64 (dg0 (r)), .int .u64 (dg1 (r)), .int .u64 (dg2 (r)), .int .u64 (dg3 (r))] 31)
      case first =>
        go_region_held3 (fun v => (∀ i, v.cell? ⟨w.heap.size, i, none⟩ = #[.int .u64 m, .int .u64 d, .int .u64 n][i]?) ∧ w.heap.size < v.heap.size ∧ Blk v (w.heap.size) #[.int .u64 m, .int .u64 d, .int .u64 n] 24 ∧ (∀ i, v.cell? ⟨w6.heap.size, i, none⟩ = #[.bool st.l.has, .int .u64 st.l.D.f.X, .int .u64 (hi (st.l.D.f.Y)), .int .u64 (lo (st.l.D.f.Y)), .int .u64 st.l.D.f.M, .int .u64 st.l.D.t.X, .int .u64 (hi (st.l.D.t.Y)), .int .u64 (lo (st.l.D.t.Y)), .int .u64 st.l.D.t.M, .bool st.l.D.b, .int .u64 st.l.E.f.X, .int .u64 (hi (st.l.E.f.Y)), .int .u64 (lo (st.l.E.f.Y)), .int .u64 st.l.E.f.M, .int .u64 st.l.E.t.X, .int .u64 (hi (st.l.E.t.Y)), .int .u64 (lo (st.l.E.t.Y)), .int .u64 st.l.E.t.M, .bool st.l.E.b, .int .u64 st.l.p, .int .u64 st.l.e, .int .u64 st.l.t][i]?) ∧ w6.heap.size < v.heap.size ∧ Blk v (w6.heap.size) #[.bool st.l.has, .int .u64 st.l.D.f.X, .int .u64 (hi (st.l.D.f.Y)), .int .u64 (lo (st.l.D.f.Y)), .int .u64 st.l.D.f.M, .int .u64 st.l.D.t.X, .int .u64 (hi (st.l.D.t.Y)), .int .u64 (lo (st.l.D.t.Y)), .int .u64 st.l.D.t.M, .bool st.l.D.b, .int .u64 st.l.E.f.X, .int .u64 (hi (st.l.E.f.Y)), .int .u64 (lo (st.l.E.f.Y)), .int .u64 st.l.E.f.M, .int .u64 st.l.E.t.X, .int .u64 (hi (st.l.E.t.Y)), .int .u64 (lo (st.l.E.t.Y)), .int .u64 st.l.E.t.M, .bool st.l.E.b, .int .u64 st.l.p, .int .u64 st.l.e, .int .u64 st.l.t] 65 ∧ (∀ i, v.cell? ⟨w6.heap.size + 1, i, none⟩ = #[.int .u64 (dg0 (e)), .int .u64 (dg1 (e)), .int .u64 (dg2 (e)), .int .u64 (dg3 (e))][i]?) ∧ w6.heap.size + 1 < v.heap.size ∧ Blk v (w6.heap.size + 1) #[.int .u64 (dg0 (e)), .int .u64 (dg1 (e)), .int .u64 (dg2 (e)), .int .u64 (dg3 (e))] 31 ∧ (∀ i, v.cell? ⟨wr.heap.size, i, none⟩ = #[.int .u64 vq.at_, .int .u64 vq.p][i]?) ∧ wr.heap.size < v.heap.size ∧ Blk v (wr.heap.size) #[.int .u64 vq.at_, .int .u64 vq.p] 84 ∧ Below wr.heap.size wr v)
          (first
            | (refine ⟨?_, ?_, ?_, ?_, ?_, ?_, ?_, ?_, ?_, ?_, ?_, ?_, ?_⟩ <;> first | (with_reducible assumption) | ((repeat' (first | (with_reducible (first | assumption | exact Blk.alloc_new _ _ _ (by first | rfl | (simp; done) | omega) | apply Blk.drewN | apply Blk.drew | apply Blk.alloc_old | apply Blk.set_same | apply Blk.set_other)) | (show (_ : Nat) ≠ _; first | omega | (simp; done) | (simp; omega)) | ((simp only [List.setIfInBounds_toArray, List.set_cons_succ, List.set_cons_zero]); (with_reducible exact rfl)) | (with_reducible exact rfl) | (show (_ : Array Value) = _; exact rfl))); done) | ((repeat' (first | (with_reducible (first | exact Below.refl _ _ | assumption | refine below_drewN ?_ _ | refine Below.drew ?_ | refine Below.alloc ?_ ?_ _ | refine Below.setCell ?_ ?_ _)) | go_size)); done) | omega | (go_simp; done) | (simp; done) | (exact Blk.cell (by (repeat' (first | (with_reducible (first | assumption | exact Blk.alloc_new _ _ _ (by first | rfl | (simp; done) | omega) | apply Blk.drewN | apply Blk.drew | apply Blk.alloc_old | apply Blk.set_same | apply Blk.set_other)) | (show (_ : Nat) ≠ _; first | omega | (simp; done) | (simp; omega)) | ((simp only [List.setIfInBounds_toArray, List.set_cons_succ, List.set_cons_zero]); (with_reducible exact rfl)) | (with_reducible exact rfl) | (show (_ : Array Value) = _; exact rfl)))))))
          (first
            | (go_at_call 39; (with_reducible refine (runits vq.p q _ (by omega) Hq.out).mono ?_); rintro e w' ⟨rfl, hb'⟩; have hbx : Below wr.heap.size wr w' := (by refine Below.trans ?_ (Below.mono hb' ?_) <;> (repeat' (first | (with_reducible (first | exact Below.refl _ _ | assumption | refine below_drewN ?_ _ | refine Below.drew ?_ | refine Below.alloc ?_ ?_ _ | refine Below.setCell ?_ ?_ _)) | go_size))); have hbs := hb'.size; (try simp at hbs); (try (first | have hX := Blk.below (Blk.alloc_new _ _ _ rfl) hb' (by first | (simp; done) | omega | (simp; omega)) | have hX := Blk.below (Blk.drew (Blk.alloc_new _ _ _ rfl)) hb' (by first | (simp; done) | omega | (simp; omega)) | have hX := Blk.below hX hb' (by first | (simp; done) | omega | (simp; omega)) | have hX := Blk.below hX.drew hb' (by first | (simp; done) | omega | (simp; omega)))); (try simp only [World.size_alloc] at hX); (try (have cX := hX.cell; have fX := hX.frozen; have zX := hX.size)); have hkC : Blk w' (w.heap.size) #[.int .u64 m, .int .u64 d, .int .u64 n] 24 := Blk.below (by (repeat' (first | (with_reducible (first | assumption | exact Blk.alloc_new _ _ _ (by first | rfl | (simp; done) | omega) | apply Blk.drewN | apply Blk.drew | apply Blk.alloc_old | apply Blk.set_same | apply Blk.set_other)) | (show (_ : Nat) ≠ _; first | omega | (simp; done) | (simp; omega)) | ((simp only [List.setIfInBounds_toArray, List.set_cons_succ, List.set_cons_zero]); (with_reducible exact rfl)) | (with_reducible exact rfl) | (show (_ : Array Value) = _; exact rfl)))) hb' (by first | (simp; done) | omega | (simp; omega)); have hqC := hkC.cell; have hzC := hkC.size; have hkX : Blk w' (w6.heap.size) #[.bool st.l.has, .int .u64 st.l.D.f.X, .int .u64 (hi (st.l.D.f.Y)), .int .u64 (lo (st.l.D.f.Y)), .int .u64 st.l.D.f.M, .int .u64 st.l.D.t.X, .int .u64 (hi (st.l.D.t.Y)), .int .u64 (lo (st.l.D.t.Y)), .int .u64 st.l.D.t.M, .bool st.l.D.b, .int .u64 st.l.E.f.X, .int .u64 (hi (st.l.E.f.Y)), .int .u64 (lo (st.l.E.f.Y)), .int .u64 st.l.E.f.M, .int .u64 st.l.E.t.X, .int .u64 (hi (st.l.E.t.Y)), .int .u64 (lo (st.l.E.t.Y)), .int .u64 st.l.E.t.M, .bool st.l.E.b, .int .u64 st.l.p, .int .u64 st.l.e, .int .u64 st.l.t] 65 := Blk.below (by (repeat' (first | (with_reducible (first | assumption | exact Blk.alloc_new _ _ _ (by first | rfl | (simp; done) | omega) | apply Blk.drewN | apply Blk.drew | apply Blk.alloc_old | apply Blk.set_same | apply Blk.set_other)) | (show (_ : Nat) ≠ _; first | omega | (simp; done) | (simp; omega)) | ((simp only [List.setIfInBounds_toArray, List.set_cons_succ, List.set_cons_zero]); (with_reducible exact rfl)) | (with_reducible exact rfl) | (show (_ : Array Value) = _; exact rfl)))) hb' (by first | (simp; done) | omega | (simp; omega)); have hqX := hkX.cell; have hzX := hkX.size; have hkE : Blk w' (w6.heap.size + 1) #[.int .u64 (dg0 (e)), .int .u64 (dg1 (e)), .int .u64 (dg2 (e)), .int .u64 (dg3 (e))] 31 := Blk.below (by (repeat' (first | (with_reducible (first | assumption | exact Blk.alloc_new _ _ _ (by first | rfl | (simp; done) | omega) | apply Blk.drewN | apply Blk.drew | apply Blk.alloc_old | apply Blk.set_same | apply Blk.set_other)) | (show (_ : Nat) ≠ _; first | omega | (simp; done) | (simp; omega)) | ((simp only [List.setIfInBounds_toArray, List.set_cons_succ, List.set_cons_zero]); (with_reducible exact rfl)) | (with_reducible exact rfl) | (show (_ : Array Value) = _; exact rfl)))) hb' (by first | (simp; done) | omega | (simp; omega)); have hqE := hkE.cell; have hzE := hkE.size; have hkS : Blk w' (wr.heap.size) #[.int .u64 vq.at_, .int .u64 vq.p] 84 := Blk.below (by (repeat' (first | (with_reducible (first | assumption | exact Blk.alloc_new _ _ _ (by first | rfl | (simp; done) | omega) | apply Blk.drewN | apply Blk.drew | apply Blk.alloc_old | apply Blk.set_same | apply Blk.set_other)) | (show (_ : Nat) ≠ _; first | omega | (simp; done) | (simp; omega)) | ((simp only [List.setIfInBounds_toArray, List.set_cons_succ, List.set_cons_zero]); (with_reducible exact rfl)) | (with_reducible exact rfl) | (show (_ : Array Value) = _; exact rfl)))) hb' (by first | (simp; done) | omega | (simp; omega)); have hqS := hkS.cell; have hzS := hkS.size; clear hb')
            | (go_at_call 41; (with_reducible refine (rservice_any m d n (st.now + d + mo - vq.at_) s _ hm.1 hd.1 hn.1 (by omega) Hs.out).mono ?_); rintro e w' ⟨rfl, hb'⟩; have hbx : Below wr.heap.size wr w' := (by refine Below.trans ?_ (Below.mono hb' ?_) <;> (repeat' (first | (with_reducible (first | exact Below.refl _ _ | assumption | refine below_drewN ?_ _ | refine Below.drew ?_ | refine Below.alloc ?_ ?_ _ | refine Below.setCell ?_ ?_ _)) | go_size))); have hbs := hb'.size; (try simp at hbs); (try (first | have hX := Blk.below (Blk.alloc_new _ _ _ rfl) hb' (by first | (simp; done) | omega | (simp; omega)) | have hX := Blk.below (Blk.drew (Blk.alloc_new _ _ _ rfl)) hb' (by first | (simp; done) | omega | (simp; omega)) | have hX := Blk.below hX hb' (by first | (simp; done) | omega | (simp; omega)) | have hX := Blk.below hX.drew hb' (by first | (simp; done) | omega | (simp; omega)))); (try simp only [World.size_alloc] at hX); (try (have cX := hX.cell; have fX := hX.frozen; have zX := hX.size)); have hkC : Blk w' (w.heap.size) #[.int .u64 m, .int .u64 d, .int .u64 n] 24 := Blk.below (by (repeat' (first | (with_reducible (first | assumption | exact Blk.alloc_new _ _ _ (by first | rfl | (simp; done) | omega) | apply Blk.drewN | apply Blk.drew | apply Blk.alloc_old | apply Blk.set_same | apply Blk.set_other)) | (show (_ : Nat) ≠ _; first | omega | (simp; done) | (simp; omega)) | ((simp only [List.setIfInBounds_toArray, List.set_cons_succ, List.set_cons_zero]); (with_reducible exact rfl)) | (with_reducible exact rfl) | (show (_ : Array Value) = _; exact rfl)))) hb' (by first | (simp; done) | omega | (simp; omega)); have hqC := hkC.cell; have hzC := hkC.size; have hkX : Blk w' (w6.heap.size) #[.bool st.l.has, .int .u64 st.l.D.f.X, .int .u64 (hi (st.l.D.f.Y)), .int .u64 (lo (st.l.D.f.Y)), .int .u64 st.l.D.f.M, .int .u64 st.l.D.t.X, .int .u64 (hi (st.l.D.t.Y)), .int .u64 (lo (st.l.D.t.Y)), .int .u64 st.l.D.t.M, .bool st.l.D.b, .int .u64 st.l.E.f.X, .int .u64 (hi (st.l.E.f.Y)), .int .u64 (lo (st.l.E.f.Y)), .int .u64 st.l.E.f.M, .int .u64 st.l.E.t.X, .int .u64 (hi (st.l.E.t.Y)), .int .u64 (lo (st.l.E.t.Y)), .int .u64 st.l.E.t.M, .bool st.l.E.b, .int .u64 st.l.p, .int .u64 st.l.e, .int .u64 st.l.t] 65 := Blk.below (by (repeat' (first | (with_reducible (first | assumption | exact Blk.alloc_new _ _ _ (by first | rfl | (simp; done) | omega) | apply Blk.drewN | apply Blk.drew | apply Blk.alloc_old | apply Blk.set_same | apply Blk.set_other)) | (show (_ : Nat) ≠ _; first | omega | (simp; done) | (simp; omega)) | ((simp only [List.setIfInBounds_toArray, List.set_cons_succ, List.set_cons_zero]); (with_reducible exact rfl)) | (with_reducible exact rfl) | (show (_ : Array Value) = _; exact rfl)))) hb' (by first | (simp; done) | omega | (simp; omega)); have hqX := hkX.cell; have hzX := hkX.size; have hkE : Blk w' (w6.heap.size + 1) #[.int .u64 (dg0 (e)), .int .u64 (dg1 (e)), .int .u64 (dg2 (e)), .int .u64 (dg3 (e))] 31 := Blk.below (by (repeat' (first | (with_reducible (first | assumption | exact Blk.alloc_new _ _ _ (by first | rfl | (simp; done) | omega) | apply Blk.drewN | apply Blk.drew | apply Blk.alloc_old | apply Blk.set_same | apply Blk.set_other)) | (show (_ : Nat) ≠ _; first | omega | (simp; done) | (simp; omega)) | ((simp only [List.setIfInBounds_toArray, List.set_cons_succ, List.set_cons_zero]); (with_reducible exact rfl)) | (with_reducible exact rfl) | (show (_ : Array Value) = _; exact rfl)))) hb' (by first | (simp; done) | omega | (simp; omega)); have hqE := hkE.cell; have hzE := hkE.size; have hkS : Blk w' (wr.heap.size) #[.int .u64 vq.at_, .int .u64 vq.p] 84 := Blk.below (by (repeat' (first | (with_reducible (first | assumption | exact Blk.alloc_new _ _ _ (by first | rfl | (simp; done) | omega) | apply Blk.drewN | apply Blk.drew | apply Blk.alloc_old | apply Blk.set_same | apply Blk.set_other)) | (show (_ : Nat) ≠ _; first | omega | (simp; done) | (simp; omega)) | ((simp only [List.setIfInBounds_toArray, List.set_cons_succ, List.set_cons_zero]); (with_reducible exact rfl)) | (with_reducible exact rfl) | (show (_ : Array Value) = _; exact rfl)))) hb' (by first | (simp; done) | omega | (simp; omega)); have hqS := hkS.cell; have hzS := hkS.size; clear hb')
            | (go_at_call 40; (with_reducible refine (rPlusM q s r _ iq is Hr.out).mono ?_); rintro e w' ⟨rfl, hb'⟩; have hbx : Below wr.heap.size wr w' := (by refine Below.trans ?_ (Below.mono hb' ?_) <;> (repeat' (first | (with_reducible (first | exact Below.refl _ _ | assumption | refine below_drewN ?_ _ | refine Below.drew ?_ | refine Below.alloc ?_ ?_ _ | refine Below.setCell ?_ ?_ _)) | go_size))); have hbs := hb'.size; (try simp at hbs); (try (first | have hX := Blk.below (Blk.alloc_new _ _ _ rfl) hb' (by first | (simp; done) | omega | (simp; omega)) | have hX := Blk.below (Blk.drew (Blk.alloc_new _ _ _ rfl)) hb' (by first | (simp; done) | omega | (simp; omega)) | have hX := Blk.below hX hb' (by first | (simp; done) | omega | (simp; omega)) | have hX := Blk.below hX.drew hb' (by first | (simp; done) | omega | (simp; omega)))); (try simp only [World.size_alloc] at hX); (try (have cX := hX.cell; have fX := hX.frozen; have zX := hX.size)); have hkC : Blk w' (w.heap.size) #[.int .u64 m, .int .u64 d, .int .u64 n] 24 := Blk.below (by (repeat' (first | (with_reducible (first | assumption | exact Blk.alloc_new _ _ _ (by first | rfl | (simp; done) | omega) | apply Blk.drewN | apply Blk.drew | apply Blk.alloc_old | apply Blk.set_same | apply Blk.set_other)) | (show (_ : Nat) ≠ _; first | omega | (simp; done) | (simp; omega)) | ((simp only [List.setIfInBounds_toArray, List.set_cons_succ, List.set_cons_zero]); (with_reducible exact rfl)) | (with_reducible exact rfl) | (show (_ : Array Value) = _; exact rfl)))) hb' (by first | (simp; done) | omega | (simp; omega)); have hqC := hkC.cell; have hzC := hkC.size; have hkX : Blk w' (w6.heap.size) #[.bool st.l.has, .int .u64 st.l.D.f.X, .int .u64 (hi (st.l.D.f.Y)), .int .u64 (lo (st.l.D.f.Y)), .int .u64 st.l.D.f.M, .int .u64 st.l.D.t.X, .int .u64 (hi (st.l.D.t.Y)), .int .u64 (lo (st.l.D.t.Y)), .int .u64 st.l.D.t.M, .bool st.l.D.b, .int .u64 st.l.E.f.X, .int .u64 (hi (st.l.E.f.Y)), .int .u64 (lo (st.l.E.f.Y)), .int .u64 st.l.E.f.M, .int .u64 st.l.E.t.X, .int .u64 (hi (st.l.E.t.Y)), .int .u64 (lo (st.l.E.t.Y)), .int .u64 st.l.E.t.M, .bool st.l.E.b, .int .u64 st.l.p, .int .u64 st.l.e, .int .u64 st.l.t] 65 := Blk.below (by (repeat' (first | (with_reducible (first | assumption | exact Blk.alloc_new _ _ _ (by first | rfl | (simp; done) | omega) | apply Blk.drewN | apply Blk.drew | apply Blk.alloc_old | apply Blk.set_same | apply Blk.set_other)) | (show (_ : Nat) ≠ _; first | omega | (simp; done) | (simp; omega)) | ((simp only [List.setIfInBounds_toArray, List.set_cons_succ, List.set_cons_zero]); (with_reducible exact rfl)) | (with_reducible exact rfl) | (show (_ : Array Value) = _; exact rfl)))) hb' (by first | (simp; done) | omega | (simp; omega)); have hqX := hkX.cell; have hzX := hkX.size; have hkE : Blk w' (w6.heap.size + 1) #[.int .u64 (dg0 (e)), .int .u64 (dg1 (e)), .int .u64 (dg2 (e)), .int .u64 (dg3 (e))] 31 := Blk.below (by (repeat' (first | (with_reducible (first | assumption | exact Blk.alloc_new _ _ _ (by first | rfl | (simp; done) | omega) | apply Blk.drewN | apply Blk.drew | apply Blk.alloc_old | apply Blk.set_same | apply Blk.set_other)) | (show (_ : Nat) ≠ _; first | omega | (simp; done) | (simp; omega)) | ((simp only [List.setIfInBounds_toArray, List.set_cons_succ, List.set_cons_zero]); (with_reducible exact rfl)) | (with_reducible exact rfl) | (show (_ : Array Value) = _; exact rfl)))) hb' (by first | (simp; done) | omega | (simp; omega)); have hqE := hkE.cell; have hzE := hkE.size; have hkS : Blk w' (wr.heap.size) #[.int .u64 vq.at_, .int .u64 vq.p] 84 := Blk.below (by (repeat' (first | (with_reducible (first | assumption | exact Blk.alloc_new _ _ _ (by first | rfl | (simp; done) | omega) | apply Blk.drewN | apply Blk.drew | apply Blk.alloc_old | apply Blk.set_same | apply Blk.set_other)) | (show (_ : Nat) ≠ _; first | omega | (simp; done) | (simp; omega)) | ((simp only [List.setIfInBounds_toArray, List.set_cons_succ, List.set_cons_zero]); (with_reducible exact rfl)) | (with_reducible exact rfl) | (show (_ : Array Value) = _; exact rfl)))) hb' (by first | (simp; done) | omega | (simp; omega)); have hqS := hkS.cell; have hzS := hkS.size; clear hb'))
        all_goals
          go_wp2_with fail
          go_meet
          exact ⟨_, rfl, (by first | (simp; done) | omega | (simp; omega)), by (repeat' (first | (with_reducible (first | exact Below.refl _ _ | assumption | refine below_drewN ?_ _ | refine Below.drew ?_ | refine Below.alloc ?_ ?_ _ | refine Below.setCell ?_ ?_ _)) | go_size)), by (repeat' (first | (with_reducible (first | assumption | exact Blk.alloc_new _ _ _ (by first | rfl | (simp; done) | omega) | apply Blk.drewN | apply Blk.drew | apply Blk.alloc_old | apply Blk.set_same | apply Blk.set_other)) | (show (_ : Nat) ≠ _; first | omega | (simp; done) | (simp; omega)) | ((simp only [List.setIfInBounds_toArray, List.set_cons_succ, List.set_cons_zero]); (with_reducible exact rfl)) | (with_reducible exact rfl) | (show (_ : Array Value) = _; exact rfl))), by (repeat' (first | (with_reducible (first | assumption | exact Blk.alloc_new _ _ _ (by first | rfl | (simp; done) | omega) | apply Blk.drewN | apply Blk.drew | apply Blk.alloc_old | apply Blk.set_same | apply Blk.set_other)) | (show (_ : Nat) ≠ _; first | omega | (simp; done) | (simp; omega)) | ((simp only [List.setIfInBounds_toArray, List.set_cons_succ, List.set_cons_zero]); (with_reducible exact rfl)) | (with_reducible exact rfl) | (show (_ : Array Value) = _; exact rfl))), by (repeat' (first | (with_reducible (first | assumption | exact Blk.alloc_new _ _ _ (by first | rfl | (simp; done) | omega) | apply Blk.drewN | apply Blk.drew | apply Blk.alloc_old | apply Blk.set_same | apply Blk.set_other)) | (show (_ : Nat) ≠ _; first | omega | (simp; done) | (simp; omega)) | ((simp only [List.setIfInBounds_toArray, List.set_cons_succ, List.set_cons_zero]); (with_reducible exact rfl)) | (with_reducible exact rfl) | (show (_ : Array Value) = _; exact rfl))), by (repeat' (first | (with_reducible (first | assumption | exact Blk.alloc_new _ _ _ (by first | rfl | (simp; done) | omega) | apply Blk.drewN | apply Blk.drew | apply Blk.alloc_old | apply Blk.set_same | apply Blk.set_other)) | (show (_ : Nat) ≠ _; first | omega | (simp; done) | (simp; omega)) | ((simp only [List.setIfInBounds_toArray, List.set_cons_succ, List.set_cons_zero]); (with_reducible exact rfl)) | (with_reducible exact rfl) | (show (_ : Array Value) = _; exact rfl))), by (repeat' (first | (with_reducible (first | assumption | exact Blk.alloc_new _ _ _ (by first | rfl | (simp; done) | omega) | apply Blk.drewN | apply Blk.drew | apply Blk.alloc_old | apply Blk.set_same | apply Blk.set_other)) | (show (_ : Nat) ≠ _; first | omega | (simp; done) | (simp; omega)) | ((simp only [List.setIfInBounds_toArray, List.set_cons_succ, List.set_cons_zero]); (with_reducible exact rfl)) | (with_reducible exact rfl) | (show (_ : Array Value) = _; exact rfl)))⟩
      case rest =>
        obtain ⟨PV, rfl, lV, g9, C9, X9, E9, S9, V9⟩ := hcut
        have hz9 := g9.size
        have cC := C9.cell; have fC := C9.frozen; have zC := C9.size
        have cX := X9.cell; have fX := X9.frozen; have zX := X9.size
        have cE := E9.cell; have fE := E9.frozen; have zE := E9.size
        have cS := S9.cell; have fS := S9.frozen; have zS := S9.size
        have cV := V9.cell; have fV := V9.frozen; have zV := V9.size
        by_cases hk0 : k = 0
        · have dk : ((k : Int) == 0) = true := beq_iff_eq.2 (by omega)
          have hnext := hide (show 0 < k + 1 → LK m d n (st.now + d + mo) (st.ws.take (k + 1)) = r from fun _ => by rw [Htk.out, Hsn.out, if_pos (by subst hk0; rfl)]; exact Hval.out)
          go_wp2_with (refine store_blkk 31 (.tmp 12) (.tmp 73) (w6.heap.size + 1) #[.int .u64 (dg0 (e)), .int .u64 (dg1 (e)), .int .u64 (dg2 (e)), .int .u64 (dg3 (e))] #[.int .u64 (dg0 (r)), .int .u64 (dg1 (r)), .int .u64 (dg2 (r)), .int .u64 (dg3 (r))] 31 (by rfl) (by rfl) (by rfl) (by rfl) (by (repeat' (first | (with_reducible (first | assumption | exact Blk.alloc_new _ _ _ (by first | rfl | (simp; done) | omega) | apply Blk.drewN | apply Blk.drew | apply Blk.alloc_old | apply Blk.set_same | apply Blk.set_other)) | (show (_ : Nat) ≠ _; first | omega | (simp; done) | (simp; omega)) | ((simp only [List.setIfInBounds_toArray, List.set_cons_succ, List.set_cons_zero]); (with_reducible exact rfl)) | (with_reducible exact rfl) | (show (_ : Array Value) = _; exact rfl)))) rfl (by kernel_rfl) (by simp [Value.oneCell']) ?_; intro w10 E10 k10 s10; have C10 := Blk.kept (show Blk _ w.heap.size #[.int .u64 m, .int .u64 d, .int .u64 n] 24 from (by (repeat' (first | (with_reducible (first | assumption | exact Blk.alloc_new _ _ _ (by first | rfl | (simp; done) | omega) | apply Blk.drewN | apply Blk.drew | apply Blk.alloc_old | apply Blk.set_same | apply Blk.set_other)) | (show (_ : Nat) ≠ _; first | omega | (simp; done) | (simp; omega)) | ((simp only [List.setIfInBounds_toArray, List.set_cons_succ, List.set_cons_zero]); (with_reducible exact rfl)) | (with_reducible exact rfl) | (show (_ : Array Value) = _; exact rfl))))) k10 (by omega); have X10 := Blk.kept (show Blk _ w6.heap.size #[.bool st.l.has, .int .u64 st.l.D.f.X, .int .u64 (hi (st.l.D.f.Y)), .int .u64 (lo (st.l.D.f.Y)), .int .u64 st.l.D.f.M, .int .u64 st.l.D.t.X, .int .u64 (hi (st.l.D.t.Y)), .int .u64 (lo (st.l.D.t.Y)), .int .u64 st.l.D.t.M, .bool st.l.D.b, .int .u64 st.l.E.f.X, .int .u64 (hi (st.l.E.f.Y)), .int .u64 (lo (st.l.E.f.Y)), .int .u64 st.l.E.f.M, .int .u64 st.l.E.t.X, .int .u64 (hi (st.l.E.t.Y)), .int .u64 (lo (st.l.E.t.Y)), .int .u64 st.l.E.t.M, .bool st.l.E.b, .int .u64 st.l.p, .int .u64 st.l.e, .int .u64 st.l.t] 65 from (by (repeat' (first | (with_reducible (first | assumption | exact Blk.alloc_new _ _ _ (by first | rfl | (simp; done) | omega) | apply Blk.drewN | apply Blk.drew | apply Blk.alloc_old | apply Blk.set_same | apply Blk.set_other)) | (show (_ : Nat) ≠ _; first | omega | (simp; done) | (simp; omega)) | ((simp only [List.setIfInBounds_toArray, List.set_cons_succ, List.set_cons_zero]); (with_reducible exact rfl)) | (with_reducible exact rfl) | (show (_ : Array Value) = _; exact rfl))))) k10 (by omega); have H10 := (H0.below g9).keptg k10 (by omega); have g10 : Below w.heap.size w w10 := Below.trans (g0.trans (g9.mono g0.size)) (k10.1.mono (by omega)); clear cC fC zC cX fX zX cE fE zE cV fV zV cS fS zS)
          go_wp2
          go_roundw
          case rel => exact ⟨k + 1, r, by omega, by go_num, g10, C10, X10, E10, H10, ir, hnext⟩
          case measure => simp [intOf]; omega
        · have dk : ((k : Int) == 0) = false := beq_eq_false_iff_ne.2 (by omega)
          have hl0 := Hl.out (by omega)
          by_cases hl : r < e
          · have hlt : decide (r < e) = true := decide_eq_true hl
            have hnext := hide (show 0 < k + 1 → LK m d n (st.now + d + mo) (st.ws.take (k + 1)) = r from fun _ => by rw [Htk.out, Hsn.out, if_neg (Hne.out (by omega)), Hval.out, hl0, if_pos hl])
            clear hl0
            go_wp2_with fail
            refine (rLessC r e true _ ir ie hlt).mono ?_
            rintro e w11 ⟨rfl, hb11⟩
            have C11 : Blk w11 (w.heap.size) #[.int .u64 m, .int .u64 d, .int .u64 n] 24 := Blk.below (by (repeat' (first | (with_reducible (first | assumption | exact Blk.alloc_new _ _ _ (by first | rfl | (simp; done) | omega) | apply Blk.drewN | apply Blk.drew | apply Blk.alloc_old | apply Blk.set_same | apply Blk.set_other)) | (show (_ : Nat) ≠ _; first | omega | (simp; done) | (simp; omega)) | ((simp only [List.setIfInBounds_toArray, List.set_cons_succ, List.set_cons_zero]); (with_reducible exact rfl)) | (with_reducible exact rfl) | (show (_ : Array Value) = _; exact rfl)))) hb11 (by first | (simp; done) | omega | (simp; omega))
            have X11 : Blk w11 (w6.heap.size) #[.bool st.l.has, .int .u64 st.l.D.f.X, .int .u64 (hi (st.l.D.f.Y)), .int .u64 (lo (st.l.D.f.Y)), .int .u64 st.l.D.f.M, .int .u64 st.l.D.t.X, .int .u64 (hi (st.l.D.t.Y)), .int .u64 (lo (st.l.D.t.Y)), .int .u64 st.l.D.t.M, .bool st.l.D.b, .int .u64 st.l.E.f.X, .int .u64 (hi (st.l.E.f.Y)), .int .u64 (lo (st.l.E.f.Y)), .int .u64 st.l.E.f.M, .int .u64 st.l.E.t.X, .int .u64 (hi (st.l.E.t.Y)), .int .u64 (lo (st.l.E.t.Y)), .int .u64 st.l.E.t.M, .bool st.l.E.b, .int .u64 st.l.p, .int .u64 st.l.e, .int .u64 st.l.t] 65 := Blk.below (by (repeat' (first | (with_reducible (first | assumption | exact Blk.alloc_new _ _ _ (by first | rfl | (simp; done) | omega) | apply Blk.drewN | apply Blk.drew | apply Blk.alloc_old | apply Blk.set_same | apply Blk.set_other)) | (show (_ : Nat) ≠ _; first | omega | (simp; done) | (simp; omega)) | ((simp only [List.setIfInBounds_toArray, List.set_cons_succ, List.set_cons_zero]); (with_reducible exact rfl)) | (with_reducible exact rfl) | (show (_ : Array Value) = _; exact rfl)))) hb11 (by first | (simp; done) | omega | (simp; omega))
            have E11 : Blk w11 (w6.heap.size + 1) #[.int .u64 (dg0 (e)), .int .u64 (dg1 (e)), .int .u64 (dg2 (e)), .int .u64 (dg3 (e))] 31 := Blk.below (by (repeat' (first | (with_reducible (first | assumption | exact Blk.alloc_new _ _ _ (by first | rfl | (simp; done) | omega) | apply Blk.drewN | apply Blk.drew | apply Blk.alloc_old | apply Blk.set_same | apply Blk.set_other)) | (show (_ : Nat) ≠ _; first | omega | (simp; done) | (simp; omega)) | ((simp only [List.setIfInBounds_toArray, List.set_cons_succ, List.set_cons_zero]); (with_reducible exact rfl)) | (with_reducible exact rfl) | (show (_ : Array Value) = _; exact rfl)))) hb11 (by first | (simp; done) | omega | (simp; omega))
            have S11 : Blk w11 (wr.heap.size) #[.int .u64 vq.at_, .int .u64 vq.p] 84 := Blk.below (by (repeat' (first | (with_reducible (first | assumption | exact Blk.alloc_new _ _ _ (by first | rfl | (simp; done) | omega) | apply Blk.drewN | apply Blk.drew | apply Blk.alloc_old | apply Blk.set_same | apply Blk.set_other)) | (show (_ : Nat) ≠ _; first | omega | (simp; done) | (simp; omega)) | ((simp only [List.setIfInBounds_toArray, List.set_cons_succ, List.set_cons_zero]); (with_reducible exact rfl)) | (with_reducible exact rfl) | (show (_ : Array Value) = _; exact rfl)))) hb11 (by first | (simp; done) | omega | (simp; omega))
            have V11 : Blk w11 (PV) #[.int .u64 (dg0 (r)), .int .u64 (dg1 (r)), .int .u64 (dg2 (r)), .int .u64 (dg3 (r))] 31 := Blk.below (by (repeat' (first | (with_reducible (first | assumption | exact Blk.alloc_new _ _ _ (by first | rfl | (simp; done) | omega) | apply Blk.drewN | apply Blk.drew | apply Blk.alloc_old | apply Blk.set_same | apply Blk.set_other)) | (show (_ : Nat) ≠ _; first | omega | (simp; done) | (simp; omega)) | ((simp only [List.setIfInBounds_toArray, List.set_cons_succ, List.set_cons_zero]); (with_reducible exact rfl)) | (with_reducible exact rfl) | (show (_ : Array Value) = _; exact rfl)))) hb11 (by first | (simp; done) | omega | (simp; omega))
            have g11 : Below wr.heap.size wr w11 := by refine Below.trans ?_ (hb11.mono ?_) <;> (repeat' (first | (with_reducible (first | exact Below.refl _ _ | assumption | refine below_drewN ?_ _ | refine Below.drew ?_ | refine Below.alloc ?_ ?_ _ | refine Below.setCell ?_ ?_ _)) | go_size))
            have hz11 := hb11.size
            (try simp at hz11)
            clear hb11
            replace cC := C11.cell
            replace fC := C11.frozen
            replace zC := C11.size
            replace cX := X11.cell
            replace fX := X11.frozen
            replace zX := X11.size
            replace cE := E11.cell
            replace fE := E11.frozen
            replace zE := E11.size
            replace cS := S11.cell
            replace fS := S11.frozen
            replace zS := S11.size
            replace cV := V11.cell
            replace fV := V11.frozen
            replace zV := V11.size
            go_wp2_with (refine store_blkk 31 (.tmp 12) (.tmp 73) (w6.heap.size + 1) #[.int .u64 (dg0 (e)), .int .u64 (dg1 (e)), .int .u64 (dg2 (e)), .int .u64 (dg3 (e))] #[.int .u64 (dg0 (r)), .int .u64 (dg1 (r)), .int .u64 (dg2 (r)), .int .u64 (dg3 (r))] 31 (by rfl) (by rfl) (by rfl) (by rfl) (by (repeat' (first | (with_reducible (first | assumption | exact Blk.alloc_new _ _ _ (by first | rfl | (simp; done) | omega) | apply Blk.drewN | apply Blk.drew | apply Blk.alloc_old | apply Blk.set_same | apply Blk.set_other)) | (show (_ : Nat) ≠ _; first | omega | (simp; done) | (simp; omega)) | ((simp only [List.setIfInBounds_toArray, List.set_cons_succ, List.set_cons_zero]); (with_reducible exact rfl)) | (with_reducible exact rfl) | (show (_ : Array Value) = _; exact rfl)))) rfl (by kernel_rfl) (by simp [Value.oneCell']) ?_; intro w10 E10 k10 s10; have C10 := Blk.kept (show Blk _ w.heap.size #[.int .u64 m, .int .u64 d, .int .u64 n] 24 from (by (repeat' (first | (with_reducible (first | assumption | exact Blk.alloc_new _ _ _ (by first | rfl | (simp; done) | omega) | apply Blk.drewN | apply Blk.drew | apply Blk.alloc_old | apply Blk.set_same | apply Blk.set_other)) | (show (_ : Nat) ≠ _; first | omega | (simp; done) | (simp; omega)) | ((simp only [List.setIfInBounds_toArray, List.set_cons_succ, List.set_cons_zero]); (with_reducible exact rfl)) | (with_reducible exact rfl) | (show (_ : Array Value) = _; exact rfl))))) k10 (by omega); have X10 := Blk.kept (show Blk _ w6.heap.size #[.bool st.l.has, .int .u64 st.l.D.f.X, .int .u64 (hi (st.l.D.f.Y)), .int .u64 (lo (st.l.D.f.Y)), .int .u64 st.l.D.f.M, .int .u64 st.l.D.t.X, .int .u64 (hi (st.l.D.t.Y)), .int .u64 (lo (st.l.D.t.Y)), .int .u64 st.l.D.t.M, .bool st.l.D.b, .int .u64 st.l.E.f.X, .int .u64 (hi (st.l.E.f.Y)), .int .u64 (lo (st.l.E.f.Y)), .int .u64 st.l.E.f.M, .int .u64 st.l.E.t.X, .int .u64 (hi (st.l.E.t.Y)), .int .u64 (lo (st.l.E.t.Y)), .int .u64 st.l.E.t.M, .bool st.l.E.b, .int .u64 st.l.p, .int .u64 st.l.e, .int .u64 st.l.t] 65 from (by (repeat' (first | (with_reducible (first | assumption | exact Blk.alloc_new _ _ _ (by first | rfl | (simp; done) | omega) | apply Blk.drewN | apply Blk.drew | apply Blk.alloc_old | apply Blk.set_same | apply Blk.set_other)) | (show (_ : Nat) ≠ _; first | omega | (simp; done) | (simp; omega)) | ((simp only [List.setIfInBounds_toArray, List.set_cons_succ, List.set_cons_zero]); (with_reducible exact rfl)) | (with_reducible exact rfl) | (show (_ : Array Value) = _; exact rfl))))) k10 (by omega); have H10 := (H0.below g11).keptg k10 (by omega); have g10 : Below w.heap.size w w10 := Below.trans (g0.trans (g11.mono g0.size)) (k10.1.mono (by omega)); clear cC fC zC cX fX zX cE fE zE cV fV zV cS fS zS)
            go_wp2
            go_roundw
            case rel => exact ⟨k + 1, r, by omega, by go_num, g10, C10, X10, E10, H10, ir, hnext⟩
            case measure => simp [intOf]; omega
          · have hlt : decide (r < e) = false := decide_eq_false hl
            have hnext := hide (show 0 < k + 1 → LK m d n (st.now + d + mo) (st.ws.take (k + 1)) = e from fun _ => by rw [Htk.out, Hsn.out, if_neg (Hne.out (by omega)), Hval.out, hl0, if_neg hl])
            clear hl0
            go_wp2_with fail
            refine (rLessC r e false _ ir ie hlt).mono ?_
            rintro e w11 ⟨rfl, hb11⟩
            have C11 : Blk w11 (w.heap.size) #[.int .u64 m, .int .u64 d, .int .u64 n] 24 := Blk.below (by (repeat' (first | (with_reducible (first | assumption | exact Blk.alloc_new _ _ _ (by first | rfl | (simp; done) | omega) | apply Blk.drewN | apply Blk.drew | apply Blk.alloc_old | apply Blk.set_same | apply Blk.set_other)) | (show (_ : Nat) ≠ _; first | omega | (simp; done) | (simp; omega)) | ((simp only [List.setIfInBounds_toArray, List.set_cons_succ, List.set_cons_zero]); (with_reducible exact rfl)) | (with_reducible exact rfl) | (show (_ : Array Value) = _; exact rfl)))) hb11 (by first | (simp; done) | omega | (simp; omega))
            have X11 : Blk w11 (w6.heap.size) #[.bool st.l.has, .int .u64 st.l.D.f.X, .int .u64 (hi (st.l.D.f.Y)), .int .u64 (lo (st.l.D.f.Y)), .int .u64 st.l.D.f.M, .int .u64 st.l.D.t.X, .int .u64 (hi (st.l.D.t.Y)), .int .u64 (lo (st.l.D.t.Y)), .int .u64 st.l.D.t.M, .bool st.l.D.b, .int .u64 st.l.E.f.X, .int .u64 (hi (st.l.E.f.Y)), .int .u64 (lo (st.l.E.f.Y)), .int .u64 st.l.E.f.M, .int .u64 st.l.E.t.X, .int .u64 (hi (st.l.E.t.Y)), .int .u64 (lo (st.l.E.t.Y)), .int .u64 st.l.E.t.M, .bool st.l.E.b, .int .u64 st.l.p, .int .u64 st.l.e, .int .u64 st.l.t] 65 := Blk.below (by (repeat' (first | (with_reducible (first | assumption | exact Blk.alloc_new _ _ _ (by first | rfl | (simp; done) | omega) | apply Blk.drewN | apply Blk.drew | apply Blk.alloc_old | apply Blk.set_same | apply Blk.set_other)) | (show (_ : Nat) ≠ _; first | omega | (simp; done) | (simp; omega)) | ((simp only [List.setIfInBounds_toArray, List.set_cons_succ, List.set_cons_zero]); (with_reducible exact rfl)) | (with_reducible exact rfl) | (show (_ : Array Value) = _; exact rfl)))) hb11 (by first | (simp; done) | omega | (simp; omega))
            have E11 : Blk w11 (w6.heap.size + 1) #[.int .u64 (dg0 (e)), .int .u64 (dg1 (e)), .int .u64 (dg2 (e)), .int .u64 (dg3 (e))] 31 := Blk.below (by (repeat' (first | (with_reducible (first | assumption | exact Blk.alloc_new _ _ _ (by first | rfl | (simp; done) | omega) | apply Blk.drewN | apply Blk.drew | apply Blk.alloc_old | apply Blk.set_same | apply Blk.set_other)) | (show (_ : Nat) ≠ _; first | omega | (simp; done) | (simp; omega)) | ((simp only [List.setIfInBounds_toArray, List.set_cons_succ, List.set_cons_zero]); (with_reducible exact rfl)) | (with_reducible exact rfl) | (show (_ : Array Value) = _; exact rfl)))) hb11 (by first | (simp; done) | omega | (simp; omega))
            have S11 : Blk w11 (wr.heap.size) #[.int .u64 vq.at_, .int .u64 vq.p] 84 := Blk.below (by (repeat' (first | (with_reducible (first | assumption | exact Blk.alloc_new _ _ _ (by first | rfl | (simp; done) | omega) | apply Blk.drewN | apply Blk.drew | apply Blk.alloc_old | apply Blk.set_same | apply Blk.set_other)) | (show (_ : Nat) ≠ _; first | omega | (simp; done) | (simp; omega)) | ((simp only [List.setIfInBounds_toArray, List.set_cons_succ, List.set_cons_zero]); (with_reducible exact rfl)) | (with_reducible exact rfl) | (show (_ : Array Value) = _; exact rfl)))) hb11 (by first | (simp; done) | omega | (simp; omega))
            have V11 : Blk w11 (PV) #[.int .u64 (dg0 (r)), .int .u64 (dg1 (r)), .int .u64 (dg2 (r)), .int .u64 (dg3 (r))] 31 := Blk.below (by (repeat' (first | (with_reducible (first | assumption | exact Blk.alloc_new _ _ _ (by first | rfl | (simp; done) | omega) | apply Blk.drewN | apply Blk.drew | apply Blk.alloc_old | apply Blk.set_same | apply Blk.set_other)) | (show (_ : Nat) ≠ _; first | omega | (simp; done) | (simp; omega)) | ((simp only [List.setIfInBounds_toArray, List.set_cons_succ, List.set_cons_zero]); (with_reducible exact rfl)) | (with_reducible exact rfl) | (show (_ : Array Value) = _; exact rfl)))) hb11 (by first | (simp; done) | omega | (simp; omega))
            have g11 : Below wr.heap.size wr w11 := by refine Below.trans ?_ (hb11.mono ?_) <;> (repeat' (first | (with_reducible (first | exact Below.refl _ _ | assumption | refine below_drewN ?_ _ | refine Below.drew ?_ | refine Below.alloc ?_ ?_ _ | refine Below.setCell ?_ ?_ _)) | go_size))
            have hz11 := hb11.size
            (try simp at hz11)
            clear hb11
            replace cC := C11.cell
            replace fC := C11.frozen
            replace zC := C11.size
            replace cX := X11.cell
            replace fX := X11.frozen
            replace zX := X11.size
            replace cE := E11.cell
            replace fE := E11.frozen
            replace zE := E11.size
            replace cS := S11.cell
            replace fS := S11.frozen
            replace zS := S11.size
            replace cV := V11.cell
            replace fV := V11.frozen
            replace zV := V11.size
            have gx : Below w.heap.size w w11 := g0.trans (g11.mono g0.size)
            go_wp2
            go_roundw
            case rel => exact ⟨k + 1, e, by omega, by go_num, by (repeat' (first | (with_reducible (first | exact Below.refl _ _ | assumption | refine below_drewN ?_ _ | refine Below.drew ?_ | refine Below.alloc ?_ ?_ _ | refine Below.setCell ?_ ?_ _)) | go_size)), by (repeat' (first | (with_reducible (first | assumption | exact Blk.alloc_new _ _ _ (by first | rfl | (simp; done) | omega) | apply Blk.drewN | apply Blk.drew | apply Blk.alloc_old | apply Blk.set_same | apply Blk.set_other)) | (show (_ : Nat) ≠ _; first | omega | (simp; done) | (simp; omega)) | ((simp only [List.setIfInBounds_toArray, List.set_cons_succ, List.set_cons_zero]); (with_reducible exact rfl)) | (with_reducible exact rfl) | (show (_ : Array Value) = _; exact rfl))), by (repeat' (first | (with_reducible (first | assumption | exact Blk.alloc_new _ _ _ (by first | rfl | (simp; done) | omega) | apply Blk.drewN | apply Blk.drew | apply Blk.alloc_old | apply Blk.set_same | apply Blk.set_other)) | (show (_ : Nat) ≠ _; first | omega | (simp; done) | (simp; omega)) | ((simp only [List.setIfInBounds_toArray, List.set_cons_succ, List.set_cons_zero]); (with_reducible exact rfl)) | (with_reducible exact rfl) | (show (_ : Array Value) = _; exact rfl))), by (repeat' (first | (with_reducible (first | assumption | exact Blk.alloc_new _ _ _ (by first | rfl | (simp; done) | omega) | apply Blk.drewN | apply Blk.drew | apply Blk.alloc_old | apply Blk.set_same | apply Blk.set_other)) | (show (_ : Nat) ≠ _; first | omega | (simp; done) | (simp; omega)) | ((simp only [List.setIfInBounds_toArray, List.set_cons_succ, List.set_cons_zero]); (with_reducible exact rfl)) | (with_reducible exact rfl) | (show (_ : Array Value) = _; exact rfl))), H0.below g11, ie, hnext⟩
            case measure => simp [intOf]; omega
    · obtain rfl : k = st.ws.length := by omega
      have he := Hl.out hpos
      rw [List.take_length] at he
      have hfin : st.l.D.at (st.now + d + mo) = e := Hat.out.trans he
      have Hf := hide hfin
      have heq := neq e e true ie ie (by simp)
      clear he hfin
      go_wp2_with fail
      refine wp_forget (fun v => Below wr.heap.size wr v ∧ Blk v (w.heap.size) #[.int .u64 m, .int .u64 d, .int .u64 n] 24 ∧ Blk v (w6.heap.size) #[.bool st.l.has, .int .u64 st.l.D.f.X, .int .u64 (hi (st.l.D.f.Y)), .int .u64 (lo (st.l.D.f.Y)), .int .u64 st.l.D.f.M, .int .u64 st.l.D.t.X, .int .u64 (hi (st.l.D.t.Y)), .int .u64 (lo (st.l.D.t.Y)), .int .u64 st.l.D.t.M, .bool st.l.D.b, .int .u64 st.l.E.f.X, .int .u64 (hi (st.l.E.f.Y)), .int .u64 (lo (st.l.E.f.Y)), .int .u64 st.l.E.f.M, .int .u64 st.l.E.t.X, .int .u64 (hi (st.l.E.t.Y)), .int .u64 (lo (st.l.E.t.Y)), .int .u64 st.l.E.t.M, .bool st.l.E.b, .int .u64 st.l.p, .int .u64 st.l.e, .int .u64 st.l.t] 65 ∧ Blk v (w6.heap.size + 1) #[.int .u64 (dg0 (e)), .int .u64 (dg1 (e)), .int .u64 (dg2 (e)), .int .u64 (dg3 (e))] 31) ⟨by (repeat' (first | (with_reducible (first | exact Below.refl _ _ | assumption | refine below_drewN ?_ _ | refine Below.drew ?_ | refine Below.alloc ?_ ?_ _ | refine Below.setCell ?_ ?_ _)) | go_size)), by (repeat' (first | (with_reducible (first | assumption | exact Blk.alloc_new _ _ _ (by first | rfl | (simp; done) | omega) | apply Blk.drewN | apply Blk.drew | apply Blk.alloc_old | apply Blk.set_same | apply Blk.set_other)) | (show (_ : Nat) ≠ _; first | omega | (simp; done) | (simp; omega)) | ((simp only [List.setIfInBounds_toArray, List.set_cons_succ, List.set_cons_zero]); (with_reducible exact rfl)) | (with_reducible exact rfl) | (show (_ : Array Value) = _; exact rfl))), by (repeat' (first | (with_reducible (first | assumption | exact Blk.alloc_new _ _ _ (by first | rfl | (simp; done) | omega) | apply Blk.drewN | apply Blk.drew | apply Blk.alloc_old | apply Blk.set_same | apply Blk.set_other)) | (show (_ : Nat) ≠ _; first | omega | (simp; done) | (simp; omega)) | ((simp only [List.setIfInBounds_toArray, List.set_cons_succ, List.set_cons_zero]); (with_reducible exact rfl)) | (with_reducible exact rfl) | (show (_ : Array Value) = _; exact rfl))), by (repeat' (first | (with_reducible (first | assumption | exact Blk.alloc_new _ _ _ (by first | rfl | (simp; done) | omega) | apply Blk.drewN | apply Blk.drew | apply Blk.alloc_old | apply Blk.set_same | apply Blk.set_other)) | (show (_ : Nat) ≠ _; first | omega | (simp; done) | (simp; omega)) | ((simp only [List.setIfInBounds_toArray, List.set_cons_succ, List.set_cons_zero]); (with_reducible exact rfl)) | (with_reducible exact rfl) | (show (_ : Array Value) = _; exact rfl)))⟩ ?_
      rintro v12 ⟨gv12, Cv12, Xv12, Ev12⟩
      have qC12 := blk_calm Cv12
      have qX12 := blk_calm Xv12
      have qE12 := blk_calm Ev12
      refine wp_region_quiet_below (by kernel_rfl) (by kernel_rfl) ?_
      repeat (go_big_quiet_step ((first
          | (go_at_call 22; (with_reducible exact Calls.regrown_of (runat st.l.D (st.now + d + mo) e _ oD (by omega) Hf.out)))
          | (go_at_call 43; (with_reducible exact Calls.regrown_of (num20 e _ ie)))
          | (go_at_call 30; (with_reducible exact Calls.regrown_of (hundred20_true _))))))
      refine wpQuiet_nil ?_
      intro _ hw'
      obtain ⟨pq, hw''⟩ := hw'
      subst hw''
      have hb12 := below_regrown v12 pq.d pq.os
      generalize Sort.grow (redrawn v12 pq.d) pq.os = w12 at *
      have C12 : Blk w12 (w.heap.size) #[.int .u64 m, .int .u64 d, .int .u64 n] 24 := Blk.below Cv12 hb12 Cv12.size
      have X12 : Blk w12 (w6.heap.size) #[.bool st.l.has, .int .u64 st.l.D.f.X, .int .u64 (hi (st.l.D.f.Y)), .int .u64 (lo (st.l.D.f.Y)), .int .u64 st.l.D.f.M, .int .u64 st.l.D.t.X, .int .u64 (hi (st.l.D.t.Y)), .int .u64 (lo (st.l.D.t.Y)), .int .u64 st.l.D.t.M, .bool st.l.D.b, .int .u64 st.l.E.f.X, .int .u64 (hi (st.l.E.f.Y)), .int .u64 (lo (st.l.E.f.Y)), .int .u64 st.l.E.f.M, .int .u64 st.l.E.t.X, .int .u64 (hi (st.l.E.t.Y)), .int .u64 (lo (st.l.E.t.Y)), .int .u64 st.l.E.t.M, .bool st.l.E.b, .int .u64 st.l.p, .int .u64 st.l.e, .int .u64 st.l.t] 65 := Blk.below Xv12 hb12 Xv12.size
      have E12 : Blk w12 (w6.heap.size + 1) #[.int .u64 (dg0 (e)), .int .u64 (dg1 (e)), .int .u64 (dg2 (e)), .int .u64 (dg3 (e))] 31 := Blk.below Ev12 hb12 Ev12.size
      have g12 : Below wr.heap.size wr w12 := gv12.trans (hb12.mono gv12.size)
      have hz12 : wr.heap.size ≤ w12.heap.size := g12.size
      clear hb12 gv12 Cv12 qC12 Xv12 qX12 Ev12 qE12
      replace cC := C12.cell
      replace fC := C12.frozen
      replace zC := C12.size
      replace cX := X12.cell
      replace fX := X12.frozen
      replace zX := X12.size
      replace cE := E12.cell
      replace fE := E12.frozen
      replace zE := E12.size
      go_wp2
      go_ret
      exact ⟨rfl, g0.trans (g12.mono g0.size)⟩
theorem RealLeast_walk (m : Int) (hm : 0 ≤ m ∧ m ≤ 18446744073709551615) (d : Int) (hd : 0 ≤ d ∧ d ≤ 18446744073709551615) (n : Int) (hn : 0 ≤ n ∧ n ≤ 18446744073709551615) (a : Option Addr) (len cap : Nat) (mo : Int) (hmo : 0 ≤ mo ∧ mo ≤ 18446744073709551615) (w : World) (h : Rows_call20 w a len ∧ len ≤ maxLen) :
    Calls Try.prog 11 #[.agg #[.int .u64 m, .int .u64 d, .int .u64 n], .slice a len cap, .int .u64 mo] w fun e w' => e = .returned (.bool true) ∧ Below w.heap.size w w' := by
  by_cases h1 : 60 < len
  · exact RL_outa m d n mo a len cap w hm hd hn h1
  by_cases h2 : 1152921504606846976 < mo
  · exact RL_outb m d n mo a len cap w hm hd hn (by omega) h2
  by_cases hk : kd m d n = 0
  · exact RL_outc m d n mo a len cap w hm hd hn (by omega) (by omega) (by simp [hk])
  have hc := CIn.of hm.1 hd.1 hn.1 hk
  have hk' : (kd m d n != 0) = true := by simp [hk]
  obtain ⟨L, hL, hC, hnil, ok⟩ := calls_of h.1
  have hSI := story_SI (m := m) (d := d) (n := n) hc L (by omega)
  obtain ⟨st, hst⟩ : ∃ s, storyR m d n (⟨0, 0, 0, 0⟩ :: L) = s := ⟨_, rfl⟩
  rw [hst] at hSI
  have hln : st.ws.length ≤ 1000 := by
    have := story_len m d n (⟨0, 0, 0, 0⟩ :: L); rw [hst] at this; simp at this; omega
  obtain ⟨g1, g2, g3, ⟨w0, r, g4, g5⟩, g6, g7, g8⟩ := hSI
  have yd := hc.2.2.1
  refine RL_main m d n mo a len cap L st w hm hd hn ⟨hmo.1, by omega⟩ hk' hc hL (by omega) hC hnil ok hst ⟨g8.1, by omega⟩ (RN.small_ok g2.1) ?_ ?_ ?_ hln
  · intro v hv
    have := g6 v hv
    exact ⟨⟨this.2.1.1, by omega⟩, this.2.2⟩
  · rw [g4, g5]
    show _ = lst m d n _ w0 r
    refine dls_at hc (by omega) w0 r ?_ ?_
    · have := g6 w0 (by rw [g4]; exact List.mem_cons_self ..)
      exact ⟨this.1, by omega⟩
    · intro v hv
      have := g6 v (by rw [g4]; exact List.mem_cons_of_mem _ hv)
      exact ⟨this.1, by omega⟩
  · rw [g4]; simp
namespace realLeastDone
theorem own : ownKnob Try.prog.godebug = none := by kernel_rfl
theorem laidOut : laidOutB Try.prog = true := by kernel_rfl
set_option maxRecDepth 100000 in
theorem lifted (os : Os) (started : os.Started) (H : Type) (enc : TypeId × Value → H) :
    ReturnsInHanded {} Try.checked os 11 .any (Rows.realLeastSpec.pre6 enc Try.prog Try.f11 Rows.realLeastRow.domain false) (Rows.realLeastSpec.post enc Try.prog Try.f11 false true false false) := by
  refine returnsInHanded_of_change (C := Try.checked) own started (by kernel_rfl) Try.func11
    (ChangeSpec.witness6 (enc := enc) (C := Try.checked) false ⟨#[], #[.agg #[.int .u64 0, .int .u64 0, .int .u64 0], .slice none 0 0, .int .u64 0], []⟩ 8 (by kernel_rfl) (by kernel_rfl) (by kernel_rfl) (by kernel_rfl)) ?_
  intro W base args ds gs before hval0 hW hcnd _
  have hval : ∀ (j : Nat) t v, Try.f11.params[j]? = some t → args[j]? = some v → Value.okWide Try.prog W .any base t v := hval0
  have hW' := hW
  obtain ⟨p, q, hA0, hV, rfl, hfz, hnd⟩ := hW
  have hA : DataW.TrodAll enc Try.prog W 0 (fun _ => true) true Try.f11.params.toList args.toList ds p := hA0
  rw [Try.params11] at hA hval
  obtain ⟨v0, vs0, d0, ds0, p0, q0, hargs, rfl, rfl, h0, r0⟩ := trodAll_cons hA
  obtain ⟨v1, vs1, d1, ds1, p1, q1, rfl, rfl, rfl, h1, r1⟩ := trodAll_cons r0
  obtain ⟨v2, vs2, d2, ds2, p2, q2, rfl, rfl, rfl, h2, r2⟩ := trodAll_cons r1
  obtain ⟨rfl, rfl, rfl⟩ := trodAll_nil r2
  obtain rfl : args = #[v0, v1, v2] := by cases args; simp_all
  obtain ⟨rfl, rfl⟩ := trodVars_none hV
  have k0 := h0
  have lt0 : ∀ x ∈ p0, x.block < W.heap.size := by obtain ⟨m, hm⟩ := k0; exact DataW.trod_lt m _ _ _ hm
  obtain ⟨x0_0, x0_1, x0_2, y0_0, y0_1, y0_2, m0, rfl, hd0, hp0, q0_0, q0_1, q0_2⟩ := Joins.open_agg3 Try.underlying24 (by kernel_rfl) (show Try.prog.cellsOf 24 = 3 by kernel_rfl) (hval 0 24 v0 rfl rfl) h0
  obtain ⟨a0_0, e0_0, _, wf0_0⟩ := DataW.trod_int Try.underlying22 q0_0
  simp at e0_0
  subst e0_0
  have b0_0 := bounds_u64 wf0_0
  obtain ⟨a0_1, e0_1, _, wf0_1⟩ := DataW.trod_int Try.underlying22 q0_1
  simp at e0_1
  subst e0_1
  have b0_1 := bounds_u64 wf0_1
  obtain ⟨a0_2, e0_2, _, wf0_2⟩ := DataW.trod_int Try.underlying22 q0_2
  simp at e0_2
  subst e0_2
  have b0_2 := bounds_u64 wf0_2
  obtain ⟨s1, len1, cap1, rfl⟩ := okWide_slice Try.underlying78 (hval 1 78 v1 rfl rfl)
  have k1 := h1
  have lt1 : ∀ x ∈ p1, x.block < W.heap.size := by obtain ⟨m, hm⟩ := k1; exact DataW.trod_lt m _ _ _ hm
  have w1 : Rows_call20 W s1 len1 ∧ len1 ≤ maxLen := by obtain ⟨fuel, hf⟩ := h1; exact open_call20s (by simpa [Value.cells] using hf)
  obtain ⟨a2, rfl, rfl, rfl, wf2⟩ := open_int Try.underlying22 (hval 2 22 v2 rfl rfl) h2
  have b2 := bounds_u64 wf2
  clear hA0 hval0
  refine (RealLeast_walk a0_0 b0_0 a0_1 b0_1 a0_2 b0_2 s1 len1 cap1 a2 b2 W w1).mono fun e W' ⟨he, bel⟩ => ?_
  subst he
  exact ⟨_, rfl, _, _, _, [], _, [], hW', trodAll_mk1 (shut_bool Try.underlying4 _), (trodAll_cons_mk (Below.trod laidOut (by kernel_rfl) (of_decide_eq_true (by kernel_rfl)) k0 bel lt0) (trodAll_cons_mk (Below.trod laidOut (by kernel_rfl) (of_decide_eq_true (by kernel_rfl)) k1 bel lt1) (trodAll_cons_mk (shut_int Try.underlying22 wf2) trodAll_mk0))), rfl, bel.frame _, fun h => by cases h⟩
theorem over : Rows.realLeastRow.holds Try.pinned (OpenSpec.ofChange Rows.realLeastSpec) :=
  OpenClaim.holds_of_wide 11 Try.f11 rfl rfl rfl rfl rfl rfl rfl ⟨rfl, rfl, rfl, rfl, rfl⟩ rfl rfl rfl rfl rfl (by kernel_rfl) Try.func11 (by kernel_rfl)
    (of_decide_eq_true (by kernel_rfl)) (by unfold Func.isWrapper; first | (rw [if_pos (by decide +kernel)]; kernel_rfl) | (rw [if_neg (by decide +kernel)]; exact ⟨rfl, rfl⟩))
    (fun os started H enc _ => lifted os started H enc)
end realLeastDone
theorem RealLeast_holds : Rows.RealLeastSaid := realLeastDone.over

end Go.Proofs.Ytaaoadbcgnedkaa
