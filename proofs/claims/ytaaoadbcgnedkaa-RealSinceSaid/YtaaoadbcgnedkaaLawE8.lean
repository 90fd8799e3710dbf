/-
  The statement RealSince: there is a wake since which, one tick ahead of the deadline, less was asked than what was picked and the head. Conditions: none.
-/
import Derived.Test.YtaaoadbcgnedkaaRealA
import Derived.Test.YtaaoadbcgnedkaaRealT
import Derived.Test.YtaaoadbcgnedkaaFrame
namespace Go.Proofs.Ytaaoadbcgnedkaa
open Go.ChangeShapes Go.WideShapes Go.ChangeAt Go.RowKit
open Go.Sort
set_option linter.unusedVariables false
set_option linter.unusedSimpArgs false
theorem call20list4 {α : Type} {l : List α} (h : l.length = 4) : ∃ a0 a1 a2 a3, l = [a0, a1, a2, a3] := by
  match l, h with
  | [a0, a1, a2, a3], _ => exact ⟨a0, a1, a2, a3, rfl⟩
theorem cells_call20 {H : Type} {w : World} {base : Nat} {spare : Nat → Bool} {held : Bool} {enc : TypeId × Value → H} {fuel : Nat} {c0 c1 c2 c3 : Value} {x : DataW H × List MemPlace} (hf : DataW.trod enc Try.prog w base spare held fuel 67 [c0, c1, c2, c3] = some x) :
    ∃ (x0 : Int) (x1 : Int) (x2 : Int) (x3 : Int), [c0, c1, c2, c3] = [.int .i64 x0, .int .u64 x1, .int .i64 x2, .int .i64 x3] ∧ (-9223372036854775808 ≤ x0 ∧ x0 ≤ 9223372036854775807) ∧ (0 ≤ x1 ∧ x1 ≤ 18446744073709551615) ∧ (-9223372036854775808 ≤ x2 ∧ x2 ≤ 9223372036854775807) ∧ (-9223372036854775808 ≤ x3 ∧ x3 ≤ 9223372036854775807) := by
  have k0 : Try.prog.cellsOf 67 = 4 := by kernel_rfl
  have k1 : Try.prog.cellsOf 3 = 1 := by kernel_rfl
  have k2 : Try.prog.cellsOf 22 = 1 := by kernel_rfl
  obtain ⟨ys0, m0, _, _, _, hl0, hx0⟩ := DataW.trod_struct Try.underlying67 hf
  obtain ⟨y0_0, y0_1, y0_2, y0_3, rfl⟩ := call20list4 hl0
  have q0_0 := hx0 0 _ rfl
  have q0_1 := hx0 1 _ rfl
  have q0_2 := hx0 2 _ rfl
  have q0_3 := hx0 3 _ rfl
  simp [k1, k2] at q0_0 q0_1 q0_2 q0_3
  obtain ⟨x0, e0, _, w0⟩ := DataW.trod_int Try.underlying3 q0_0
  obtain ⟨x1, e1, _, w1⟩ := DataW.trod_int Try.underlying22 q0_1
  obtain ⟨x2, e2, _, w2⟩ := DataW.trod_int Try.underlying3 q0_2
  obtain ⟨x3, e3, _, w3⟩ := DataW.trod_int Try.underlying3 q0_3
  simp at e0 e1 e2 e3
  subst e0 e1 e2 e3
  exact ⟨x0, x1, x2, x3, rfl, bounds_i64 w0, bounds_u64 w1, bounds_i64 w2, bounds_i64 w3⟩
set_option maxRecDepth 100000 in
theorem open_call20 {H : Type} {w : World} {base : Nat} {spare : Nat → Bool} {held : Bool} {enc : TypeId × Value → H} {r : Reach} {b0 : Nat} {v : Value} {d : DataW H} {p : List MemPlace} (hv : Value.okWide Try.prog w r b0 67 v) (h : DataW.Trod enc Try.prog w base spare held 67 v d p) :
    ∃ (x0 : Int) (x1 : Int) (x2 : Int) (x3 : Int), v = .agg #[.int .i64 x0, .int .u64 x1, .int .i64 x2, .int .i64 x3] ∧ (-9223372036854775808 ≤ x0 ∧ x0 ≤ 9223372036854775807) ∧ (0 ≤ x1 ∧ x1 ≤ 18446744073709551615) ∧ (-9223372036854775808 ≤ x2 ∧ x2 ≤ 9223372036854775807) ∧ (-9223372036854775808 ≤ x3 ∧ x3 ≤ 9223372036854775807) := by
  obtain ⟨cs, rfl, hsz⟩ := okWide_struct Try.underlying67 hv
  obtain ⟨l⟩ := cs
  obtain ⟨c0, c1, c2, c3, rfl⟩ := call20list4 (l := l) (hsz.trans (show Try.prog.cellsOf 67 = 4 by kernel_rfl))
  obtain ⟨fuel, hf⟩ := h
  obtain ⟨x0, x1, x2, x3, e, bs⟩ := cells_call20 (x := (d, p)) (show DataW.trod enc Try.prog w base spare held fuel 67 [c0, c1, c2, c3] = some (d, p) by simpa [Value.cells] using hf)
  simp at e
  obtain ⟨rfl, rfl, rfl, rfl⟩ := e
  exact ⟨x0, x1, x2, x3, rfl, bs⟩
/-- Structs that came in: each one's cells. -/
def Rows_call20 (w : World) (a : Option Addr) (len : Nat) : Prop :=
  len = 0 ∨ ∃ b off, a = some ⟨b, off, none⟩ ∧ b < w.heap.size ∧ ∀ i, i < len → ∃ (x0 : Int) (x1 : Int) (x2 : Int) (x3 : Int), (-9223372036854775808 ≤ x0 ∧ x0 ≤ 9223372036854775807) ∧ (0 ≤ x1 ∧ x1 ≤ 18446744073709551615) ∧ (-9223372036854775808 ≤ x2 ∧ x2 ≤ 9223372036854775807) ∧ (-9223372036854775808 ≤ x3 ∧ x3 ≤ 9223372036854775807) ∧ w.cell? ⟨b, off + i * 4, none⟩ = some (.int .i64 x0) ∧ w.cell? ⟨b, off + i * 4 + 1, none⟩ = some (.int .u64 x1) ∧ w.cell? ⟨b, off + i * 4 + 2, none⟩ = some (.int .i64 x2) ∧ w.cell? ⟨b, off + i * 4 + 3, none⟩ = some (.int .i64 x3)
theorem call20_cell_lt {w : World} {b o : Nat} {v : Value} (h : w.cell? ⟨b, o, none⟩ = some v) : b < w.heap.size := by
  by_cases hb : b < w.heap.size
  · exact hb
  · simp [World.cell?, Array.getElem?_eq_none (show w.heap.size ≤ b by omega)] at h
theorem call20_cell_add {w : World} {b off : Nat} {n j : Nat} {v : Option Value} (h : w.cell? (((⟨b, off, none⟩ : Addr).add n).add j) = v) : w.cell? ⟨b, off + n + j, none⟩ = v := by
  rw [Go.Deep.add_add] at h
  unfold Addr.add at h
  by_cases h0 : n + j = 0
  · have e1 : n = 0 := by omega
    have e2 : j = 0 := by omega
    subst e1 e2; simpa using h
  · rw [if_neg h0] at h
    rw [show off + n + j = off + (n + j) by omega]; exact h
theorem open_call20s {H : Type} {w : World} {base : Nat} {spare : Nat → Bool} {held : Bool} {enc : TypeId × Value → H} {s : Option Addr} {len cap fuel : Nat} {x : DataW H × List MemPlace} (h : DataW.trod enc Try.prog w base spare held fuel 78 [.slice s len cap] = some x) : Rows_call20 w s len ∧ len ≤ maxLen := by
  rcases Go.Deep.open_slice Try.underlying78 h with ⟨hcs, _⟩ | ⟨a, len', cap', m, n, D, Pl, hcs, hb, hl, hm, hmm, hx, hi⟩
  · simp at hcs
    obtain ⟨rfl, rfl, rfl⟩ := hcs
    exact ⟨.inl rfl, by unfold maxLen; omega⟩
  · simp at hcs
    obtain ⟨rfl, rfl, rfl⟩ := hcs
    refine ⟨?_, by omega⟩
    by_cases h0 : len = 0
    · exact .inl h0
    right
    have hlm : len ≤ m := by rw [hmm]; split <;> omega
    have kN : Try.prog.cellsOf 67 = 4 := by kernel_rfl
    rw [kN] at hi
    have hall : ∀ i, i < len → ∃ (x0 : Int) (x1 : Int) (x2 : Int) (x3 : Int), (-9223372036854775808 ≤ x0 ∧ x0 ≤ 9223372036854775807) ∧ (0 ≤ x1 ∧ x1 ≤ 18446744073709551615) ∧ (-9223372036854775808 ≤ x2 ∧ x2 ≤ 9223372036854775807) ∧ (-9223372036854775808 ≤ x3 ∧ x3 ≤ 9223372036854775807) ∧ ∀ j, j < 4 → w.cell? ((a.add (i * 4)).add j) = ([.int .i64 x0, .int .u64 x1, .int .i64 x2, .int .i64 x3] : List Value)[j]? := by
      intro i hil
      obtain ⟨cs', hc, ht⟩ := hi i (by omega)
      obtain ⟨_, hlen, hat⟩ := World.cells?_some hc
      obtain ⟨c0, c1, c2, c3, rfl⟩ := call20list4 hlen
      obtain ⟨x0, x1, x2, x3, e, n0, n1, n2, n3⟩ := cells_call20 ht
      rw [e] at hat
      exact ⟨x0, x1, x2, x3, n0, n1, n2, n3, hat⟩
    obtain ⟨b, off, spot⟩ := a
    obtain ⟨_, _, _, _, _, _, _, _, hc0⟩ := hall 0 (by omega)
    have hspot : spot = none := by
      have := hc0 0 (by omega)
      simpa [Addr.add] using World.cell?_spot (by simpa [Addr.add] using this)
    subst hspot
    refine ⟨b, off, rfl, call20_cell_lt (by have := call20_cell_add (hc0 0 (by omega)); simpa using this), fun i hil => ?_⟩
    obtain ⟨x0, x1, x2, x3, n0, n1, n2, n3, hc⟩ := hall i hil
    exact ⟨x0, x1, x2, x3, n0, n1, n2, n3, call20_cell_add (hc 0 (by omega)), call20_cell_add (hc 1 (by omega)), call20_cell_add (hc 2 (by omega)), call20_cell_add (hc 3 (by omega))⟩
theorem sk_sv' {m d n t : Int} (h : kd m d n ≠ 0) : sk m d n t = sv m d n t := by unfold sk; rw [if_neg h]
theorem story_len (m d n : Int) (L : List CL) : (storyR m d n L).ws.length ≤ L.length := by
  have key : ∀ (L : List CL) (st : ST), (L.foldl (stepR m d n) st).ws.length ≤ st.ws.length + L.length := by
    intro L
    induction L with
    | nil => intro st; simp
    | cons c L ih =>
      intro st
      have h1 := ih (stepR m d n st c)
      have h2 : (stepR m d n st c).ws.length ≤ st.ws.length + 1 := by
        unfold stepR; split
        · simp
        · split <;> simp
      simp only [List.foldl_cons, List.length_cons]; omega
  have h := key L ST0
  have h0 : ST0.ws.length = 0 := rfl
  unfold storyR; omega
theorem HoldC.own {w : World} {base n : Nat} {v : Value} {L : List CL} (h : HoldC w base v L) (hn : n = L.length) : w.ownsRow base 67 4 v n (flatc L) := by subst hn; exact h
theorem HoldC.below {w w' : World} {base : Nat} {v : Value} {ws : List CL} (h : HoldC w base v ws) (hb : Below w.heap.size w w') : HoldC w' base v ws :=
  World.ownsRow.kept (row := none) h ⟨hb.os, hb.tape, hb.output, hb.size, fun k hk _ => hb.block k hk⟩ (by
    cases ho : v.ownBlock with
    | none => exact .inl rfl
    | some k => right; simp)
theorem calls_news' {w : World} {a : Option Addr} {L : List CL} (h : CallsAt w a L) {A : Addr} (hA : a = some A) (j : Nat) (u : Value) (hj : (flatc L)[j]? = some u) : w.cell? (A.add j) = some u := by
  rcases h with h | ⟨b, off, e, _, hc⟩
  · subst h; simp [flatc] at hj
  · rw [hA] at e; cases e; exact calls_news hc j u hj
theorem calls_of {w : World} {a : Option Addr} {len : Nat} (h : Rows_call20 w a len) : ∃ L : List CL, L.length = len ∧ CallsAt w a L ∧ (a = none → len = 0) ∧ ∀ c ∈ L, c.ok := by
  rcases h with h | ⟨b, off, rfl, hB, hc⟩
  · subst h; exact ⟨[], rfl, .inl rfl, fun _ => rfl, by simp⟩
  · have key : ∀ n, n ≤ len → ∃ L : List CL, L.length = n ∧ (∀ i c, L[i]? = some c → w.cell? ⟨b, off + i * 4, none⟩ = some (.int .i64 c.k) ∧ w.cell? ⟨b, off + i * 4 + 1, none⟩ = some (.int .u64 c.x) ∧ w.cell? ⟨b, off + i * 4 + 2, none⟩ = some (.int .i64 c.s) ∧ w.cell? ⟨b, off + i * 4 + 3, none⟩ = some (.int .i64 c.h)) ∧ ∀ c ∈ L, c.ok := by
      intro n
      induction n with
      | zero => intro _; exact ⟨[], rfl, by simp, by simp⟩
      | succ n ih =>
        intro hn
        obtain ⟨L, hl, h1, h2⟩ := ih (by omega)
        obtain ⟨x0, x1, x2, x3, h0, h1', h2', h3', e0, e1, e2, e3⟩ := hc n (by omega)
        refine ⟨L ++ [⟨x0, x1, x2, x3⟩], by simp [hl], fun i c hi => ?_, fun c hcm => ?_⟩
        · by_cases hin : i < L.length
          · rw [List.getElem?_append_left hin] at hi; exact h1 i c hi
          · have hi' : i < (L ++ [(⟨x0, x1, x2, x3⟩ : CL)]).length := (List.getElem?_eq_some_iff.1 hi).1
            simp at hi'
            obtain rfl : i = n := by omega
            rw [List.getElem?_append_right (by omega), hl] at hi
            simp at hi; subst hi
            exact ⟨e0, e1, e2, e3⟩
        · rcases List.mem_append.1 hcm with hcm | hcm
          · exact h2 c hcm
          · simp at hcm; subst hcm; exact ⟨h0, h1', h2', h3'⟩
    obtain ⟨L, hl, h1, h2⟩ := key len (Nat.le_refl _)
    exact ⟨L, hl, .inr ⟨b, off, rfl, hB, h1⟩, fun h => by simp at h, h2⟩
set_option maxHeartbeats 4000000 in
theorem RS_outa (m d n hd_ : Int) (a : Option Addr) (len cap : Nat) (w : World) (hm : 0 ≤ m ∧ m ≤ 18446744073709551615) (hd : 0 ≤ d ∧ d ≤ 18446744073709551615) (hn : 0 ≤ n ∧ n ≤ 18446744073709551615) (h1 : 60 < len) :
    Calls Try.prog 10 #[.agg #[.int .u64 m, .int .u64 d, .int .u64 n], .slice a len cap, .int .i64 hd_] w fun e w' => e = .returned (.bool true) ∧ Below w.heap.size w w' := by
  have d1 : decide ((60 : Int) < (len : Int)) = true := decide_eq_true (by omega)
  go_enter Try.func10, Try.ntmps10
  go_wp2_with fail
  refine (hundred20_true _).mono ?_
  rintro e w1 ⟨rfl, hb1⟩
  have g1 : Below w.heap.size w w1 := by refine Below.trans ?_ (hb1.mono ?_) <;> (repeat' (first | (with_reducible (first | exact Below.refl _ _ | assumption | refine below_drewN ?_ _ | refine Below.drew ?_ | refine Below.alloc ?_ ?_ _ | refine Below.setCell ?_ ?_ _)) | go_size))
  have hz1 := hb1.size
  (try simp at hz1)
  clear hb1
  go_wp2
  go_ret
  exact ⟨rfl, by (repeat' (first | (with_reducible (first | exact Below.refl _ _ | assumption | refine below_drewN ?_ _ | refine Below.drew ?_ | refine Below.alloc ?_ ?_ _ | refine Below.setCell ?_ ?_ _)) | go_size))⟩
set_option maxHeartbeats 4000000 in
theorem RS_outb (m d n hd_ : Int) (a : Option Addr) (len cap : Nat) (w : World) (hm : 0 ≤ m ∧ m ≤ 18446744073709551615) (hd : 0 ≤ d ∧ d ≤ 18446744073709551615) (hn : 0 ≤ n ∧ n ≤ 18446744073709551615) (h1 : len ≤ 60) (h2 : hd_ < 1) :
    Calls Try.prog 10 #[.agg #[.int .u64 m, .int .u64 d, .int .u64 n], .slice a len cap, .int .i64 hd_] w fun e w' => e = .returned (.bool true) ∧ Below w.heap.size w w' := by
  have d1 : decide ((60 : Int) < (len : Int)) = false := decide_eq_false (by omega)
  have d2 : decide (hd_ < 1) = true := decide_eq_true (by omega)
  go_enter Try.func10, Try.ntmps10
  go_wp2_with fail
  refine (hundred20_true _).mono ?_
  rintro e w1 ⟨rfl, hb1⟩
  have g1 : Below w.heap.size w w1 := by refine Below.trans ?_ (hb1.mono ?_) <;> (repeat' (first | (with_reducible (first | exact Below.refl _ _ | assumption | refine below_drewN ?_ _ | refine Below.drew ?_ | refine Below.alloc ?_ ?_ _ | refine Below.setCell ?_ ?_ _)) | go_size))
  have hz1 := hb1.size
  (try simp at hz1)
  clear hb1
  go_wp2
  go_ret
  exact ⟨rfl, by (repeat' (first | (with_reducible (first | exact Below.refl _ _ | assumption | refine below_drewN ?_ _ | refine Below.drew ?_ | refine Below.alloc ?_ ?_ _ | refine Below.setCell ?_ ?_ _)) | go_size))⟩
set_option maxHeartbeats 4000000 in
theorem RS_outc (m d n hd_ : Int) (a : Option Addr) (len cap : Nat) (w : World) (hm : 0 ≤ m ∧ m ≤ 18446744073709551615) (hd : 0 ≤ d ∧ d ≤ 18446744073709551615) (hn : 0 ≤ n ∧ n ≤ 18446744073709551615) (h1 : len ≤ 60) (h2 : 1 ≤ hd_) (h3 : 16384 < hd_) :
    Calls Try.prog 10 #[.agg #[.int .u64 m, .int .u64 d, .int .u64 n], .slice a len cap, .int .i64 hd_] w fun e w' => e = .returned (.bool true) ∧ Below w.heap.size w w' := by
  have d1 : decide ((60 : Int) < (len : Int)) = false := decide_eq_false (by omega)
  have d2 : decide (hd_ < 1) = false := decide_eq_false (by omega)
  have d3 : decide (16384 < hd_) = true := decide_eq_true (by omega)
  go_enter Try.func10, Try.ntmps10
  go_wp2_with fail
  refine (hundred20_true _).mono ?_
  rintro e w1 ⟨rfl, hb1⟩
  have g1 : Below w.heap.size w w1 := by refine Below.trans ?_ (hb1.mono ?_) <;> (repeat' (first | (with_reducible (first | exact Below.refl _ _ | assumption | refine below_drewN ?_ _ | refine Below.drew ?_ | refine Below.alloc ?_ ?_ _ | refine Below.setCell ?_ ?_ _)) | go_size))
  have hz1 := hb1.size
  (try simp at hz1)
  clear hb1
  go_wp2
  go_ret
  exact ⟨rfl, by (repeat' (first | (with_reducible (first | exact Below.refl _ _ | assumption | refine below_drewN ?_ _ | refine Below.drew ?_ | refine Below.alloc ?_ ?_ _ | refine Below.setCell ?_ ?_ _)) | go_size))⟩
set_option maxHeartbeats 4000000 in
theorem RS_outd (m d n hd_ : Int) (a : Option Addr) (len cap : Nat) (w : World) (hm : 0 ≤ m ∧ m ≤ 18446744073709551615) (hd : 0 ≤ d ∧ d ≤ 18446744073709551615) (hn : 0 ≤ n ∧ n ≤ 18446744073709551615) (h1 : len ≤ 60) (h2 : 1 ≤ hd_) (h3 : hd_ ≤ 16384) (hk : (kd m d n != 0) = false) :
    Calls Try.prog 10 #[.agg #[.int .u64 m, .int .u64 d, .int .u64 n], .slice a len cap, .int .i64 hd_] w fun e w' => e = .returned (.bool true) ∧ Below w.heap.size w w' := by
  have d1 : decide ((60 : Int) < (len : Int)) = false := decide_eq_false (by omega)
  have d2 : decide (hd_ < 1) = false := decide_eq_false (by omega)
  have d3 : decide (16384 < hd_) = false := decide_eq_false (by omega)
  have HK := hide hk; clear hk
  go_enter Try.func10, Try.ntmps10
  go_wp2_with (first | (go_at_call 19; refine (crightC m d n _ ⟨hm.1, hd.1, hn.1⟩ false HK.out).mono ?_; rintro e w' ⟨rfl, hb'⟩; have hbx : Below w.heap.size w w' := (by refine Below.trans ?_ (Below.mono hb' ?_) <;> (repeat' (first | (with_reducible (first | exact Below.refl _ _ | assumption | refine below_drewN ?_ _ | refine Below.drew ?_ | refine Below.alloc ?_ ?_ _ | refine Below.setCell ?_ ?_ _)) | go_size))); have hbs := hb'.size; (try simp at hbs); have hkC : Blk w' (w.heap.size) #[.int .u64 m, .int .u64 d, .int .u64 n] 24 := Blk.below (by (repeat' (first | (with_reducible (first | assumption | exact Blk.alloc_new _ _ _ (by first | rfl | (simp; done) | omega) | apply Blk.drewN | apply Blk.drew | apply Blk.alloc_old | apply Blk.set_same | apply Blk.set_other)) | (show (_ : Nat) ≠ _; first | omega | (simp; done) | (simp; omega)) | ((simp only [List.setIfInBounds_toArray, List.set_cons_succ, List.set_cons_zero]); (with_reducible exact rfl)) | (with_reducible exact rfl) | (show (_ : Array Value) = _; exact rfl)))) hb' (by first | (simp; done) | omega | (simp; omega)); have cC := hkC.cell; have fC := hkC.frozen; have zC := hkC.size; skip; clear hb'))
  refine (hundred20_true _).mono ?_
  rintro e w1 ⟨rfl, hb1⟩
  have C1 : Blk w1 (w.heap.size) #[.int .u64 m, .int .u64 d, .int .u64 n] 24 := Blk.below (by (repeat' (first | (with_reducible (first | assumption | exact Blk.alloc_new _ _ _ (by first | rfl | (simp; done) | omega) | apply Blk.drewN | apply Blk.drew | apply Blk.alloc_old | apply Blk.set_same | apply Blk.set_other)) | (show (_ : Nat) ≠ _; first | omega | (simp; done) | (simp; omega)) | ((simp only [List.setIfInBounds_toArray, List.set_cons_succ, List.set_cons_zero]); (with_reducible exact rfl)) | (with_reducible exact rfl) | (show (_ : Array Value) = _; exact rfl)))) hb1 (by first | (simp; done) | omega | (simp; omega))
  have g1 : Below w.heap.size w w1 := by refine Below.trans ?_ (hb1.mono ?_) <;> (repeat' (first | (with_reducible (first | exact Below.refl _ _ | assumption | refine below_drewN ?_ _ | refine Below.drew ?_ | refine Below.alloc ?_ ?_ _ | refine Below.setCell ?_ ?_ _)) | go_size))
  have hz1 := hb1.size
  (try simp at hz1)
  clear hb1
  replace cC := C1.cell
  replace fC := C1.frozen
  replace zC := C1.size
  go_wp2
  go_ret
  exact ⟨rfl, by (repeat' (first | (with_reducible (first | exact Below.refl _ _ | assumption | refine below_drewN ?_ _ | refine Below.drew ?_ | refine Below.alloc ?_ ?_ _ | refine Below.setCell ?_ ?_ _)) | go_size))⟩
def SSRel (m d n x W : Int) (st : ST) (NX B : Nat) (s : Value) (w : World) (i : Value) (wr : World) : Prop := ∃ k : Nat, k ≤ st.ws.length ∧ i = .int .i64 k ∧ Below w.heap.size w wr ∧ Blk wr (w.heap.size) #[.int .u64 m, .int .u64 d, .int .u64 n] 24 ∧ Blk wr NX #[.bool st.l.has, .int .u64 st.l.D.f.X, .int .u64 (hi (st.l.D.f.Y)), .int .u64 (lo (st.l.D.f.Y)), .int .u64 st.l.D.f.M, .int .u64 st.l.D.t.X, .int .u64 (hi (st.l.D.t.Y)), .int .u64 (lo (st.l.D.t.Y)), .int .u64 st.l.D.t.M, .bool st.l.D.b, .int .u64 st.l.E.f.X, .int .u64 (hi (st.l.E.f.Y)), .int .u64 (lo (st.l.E.f.Y)), .int .u64 st.l.E.f.M, .int .u64 st.l.E.t.X, .int .u64 (hi (st.l.E.t.Y)), .int .u64 (lo (st.l.E.t.Y)), .int .u64 st.l.E.t.M, .bool st.l.E.b, .int .u64 st.l.p, .int .u64 st.l.e, .int .u64 st.l.t] 65 ∧ HoldW wr B s st.ws ∧ Hid (∀ j v, j < k → st.ws[j]? = some v → W ≤ v.asked m d n x)
theorem notyet {m d n x W : Int} {ws : List WN} {k : Nat} {v : WN} (hv : ws[k]? = some v) (h : ∀ j v, j < k → ws[j]? = some v → W ≤ v.asked m d n x) (hn : W ≤ v.asked m d n x) : ∀ j u, j < k + 1 → ws[j]? = some u → W ≤ u.asked m d n x := by
  intro j u hj hu
  by_cases hjk : j < k
  · exact h j u hjk hu
  · obtain rfl : j = k := by omega
    rw [hv] at hu; cases hu; omega
theorem HoldW.len {w : World} {base : Nat} {v : Value} {ws : List WN} (h : HoldW w base v ws) (hw : 0 < ws.length) : ∃ g cp, v = .slice (some ⟨g, 0, none⟩) ws.length cp ∧ base ≤ g ∧ g < w.heap.size := by
  obtain ⟨g, cp, h1, h2, h3, _⟩ := h.read hw
  exact ⟨g, cp, h1, h2, h3⟩
set_option maxRecDepth 100000 in
set_option maxHeartbeats 16000000 in
theorem RS_main (m d n hd_ P1 W x : Int) (a : Option Addr) (len cap : Nat) (L : List CL) (st : ST) (w : World) (hm : 0 ≤ m ∧ m ≤ 18446744073709551615) (hd : 0 ≤ d ∧ d ≤ 18446744073709551615) (hn : 0 ≤ n ∧ n ≤ 18446744073709551615) (h2 : 1 ≤ hd_) (h3 : hd_ ≤ 16384) (hk : (kd m d n != 0) = true) (hc1 : CIn m d n) (hL : L.length = len) (h1 : len ≤ 60) (hc : CallsAt w a L) (hnil0 : a = none → len = 0) (ok : ∀ c ∈ L, c.ok) (hS : storyR m d n ((⟨0, 0, 0, 0⟩ :: L) ++ [⟨2, 0, 0, hd_⟩]) = st)
    (p0 : 0 ≤ st.l.p ∧ st.l.p ≤ 1048576) (hP1 : st.l.p + hd_ = P1) (hW : P1 * 65536 = W) (t0 : 1 ≤ st.l.t ∧ st.l.t ≤ 9223372036854775808) (hx : st.l.t - 1 = x) (hws : ∀ v ∈ st.ws, (0 ≤ v.p ∧ v.p ≤ 1048576) ∧ (0 ≤ v.at_ ∧ v.at_ ≤ 4611686018427387904)) (hex : ∃ v ∈ st.ws, v.asked m d n x < W) (hwl : st.ws.length ≤ 1000) :
    Calls Try.prog 10 #[.agg #[.int .u64 m, .int .u64 d, .int .u64 n], .slice a len cap, .int .i64 hd_] w fun e w' => e = .returned (.bool true) ∧ Below w.heap.size w w' := by
  have hW1 := hide hex; have Hws := hide hws; have HW := hide hW; have Hk1 := hide hc1
  have y1 : 0 ≤ P1 ∧ P1 ≤ 1064960 := by omega
  have iW : In128 W := by rw [← hW]; unfold In128; omega
  have hwh : IntKind.u64.wrap hd_ = hd_ := IntWalk.u64_in _ ⟨by omega, by omega⟩
  have p1 : (st.l.t == 0) = false := beq_eq_false_iff_ne.2 (by omega)
  have hwx : IntKind.u64.wrap (st.l.t - 1) = x := by rw [hx]; exact IntWalk.u64_in _ ⟨by omega, by omega⟩
  have hwp : IntKind.u64.wrap (st.l.p + hd_) = P1 := by rw [hP1]; exact IntWalk.u64_in _ ⟨by omega, by omega⟩
  have hx0 : 0 ≤ x ∧ x ≤ 9223372036854775807 := by omega
  have hpos : 0 < st.ws.length := by
    obtain ⟨v, hv, _⟩ := hex
    exact List.length_pos_of_mem hv
  clear hex hws hW hc1
  subst hL
  have Hc := hide hc; have hnil := hide hnil0; have HS := hide hS; have HK := hide hk
  have Ok := hide (show ∀ c ∈ (⟨0, 0, 0, 0⟩ :: L) ++ [⟨2, 0, 0, hd_⟩], c.ok from by
    intro c hcm
    rcases List.mem_append.1 hcm with hcm | hcm
    · rcases List.mem_cons.1 hcm with rfl | hcm
      · unfold CL.ok; simp
      · exact ok c hcm
    · simp at hcm; subst hcm; unfold CL.ok; simp only []; omega)
  clear hc hnil0 hS hk ok
  obtain ⟨io, hio, hz0, hz1, hz2⟩ := info_parts info_call
  have Jio := hide hio; have Jz0 := hide hz0; have Jz1 := hide hz1; have Jz2 := hide hz2
  clear hio hz0 hz1 hz2
  have d1 : decide ((60 : Int) < (L.length : Int)) = false := decide_eq_false (by omega)
  have d2 : decide (hd_ < 1) = false := decide_eq_false (by omega)
  have d3 : decide (16384 < hd_) = false := decide_eq_false (by omega)
  go_enter Try.func10, Try.ntmps10
  go_wp2_with fail
  refine (crightC m d n _ ⟨hm.1, hd.1, hn.1⟩ true HK.out).mono ?_
  rintro e w1 ⟨rfl, hb1⟩
  have C1 : Blk w1 (w.heap.size) #[.int .u64 m, .int .u64 d, .int .u64 n] 24 := Blk.below (by (repeat' (first | (with_reducible (first | assumption | exact Blk.alloc_new _ _ _ (by first | rfl | (simp; done) | omega) | apply Blk.drewN | apply Blk.drew | apply Blk.alloc_old | apply Blk.set_same | apply Blk.set_other)) | (show (_ : Nat) ≠ _; first | omega | (simp; done) | (simp; omega)) | ((simp only [List.setIfInBounds_toArray, List.set_cons_succ, List.set_cons_zero]); (with_reducible exact rfl)) | (with_reducible exact rfl) | (show (_ : Array Value) = _; exact rfl)))) hb1 (by first | (simp; done) | omega | (simp; omega))
  have g1 : Below w.heap.size w w1 := by refine Below.trans ?_ (hb1.mono ?_) <;> (repeat' (first | (with_reducible (first | exact Below.refl _ _ | assumption | refine below_drewN ?_ _ | refine Below.drew ?_ | refine Below.alloc ?_ ?_ _ | refine Below.setCell ?_ ?_ _)) | go_size))
  have hz1 := hb1.size
  (try simp at hz1)
  clear hb1
  have cC := C1.cell
  have fC := C1.frozen
  have zC := C1.size
  go_wp2_with (first | (refine wpList_append_lies _ (by rfl) (.tmp 32) (.tmp 34) 78 (by rfl) (w.heap.size + 1) 67 io (.agg #[.int .i64 0, .int .u64 0, .int .i64 0, .int .i64 0]) 4 32 Try.underlying78 Jio.out Jz0.out Jz1.out Jz2.out (by rfl) (by omega) (Value.slice none 0 0) (0) (flatc (([] : List CL))) (by rfl) (⟨rfl, .inl ⟨rfl, rfl⟩⟩) ⟨w1.heap.size, 0, none⟩ 1 1 [.int .i64 0, .int .u64 0, .int .i64 0, .int .i64 0] (by rfl) (by rfl) (World.news_of_block (show Blk _ (w1.heap.size) (#[.int .i64 0, .int .u64 0, .int .i64 0, .int .i64 0]) 67 from (by (repeat' (first | (with_reducible (first | assumption | exact Blk.alloc_new _ _ _ (by first | rfl | (simp; done) | omega) | apply Blk.drewN | apply Blk.drew | apply Blk.alloc_old | apply Blk.set_same | apply Blk.set_other)) | (show (_ : Nat) ≠ _; first | omega | (simp; done) | (simp; omega)) | ((simp only [List.setIfInBounds_toArray, List.set_cons_succ, List.set_cons_zero]); (with_reducible exact rfl)) | (with_reducible exact rfl) | (show (_ : Array Value) = _; exact rfl)))))) (flatc_one [⟨0, 0, 0, 0⟩]) (by omega) (by unfold maxLen; omega) (by omega) (by first | omega | (simp; omega)) _ rfl ?_; intro gg3 cap3 w3 hown3 hgrow3 hat3 hlt3; have hne3 : some w.heap.size ≠ (Value.slice none 0 0).ownBlock := (by intro h; cases h); have g3 : Below w.heap.size w w3 := below_grown (by (repeat' (first | (with_reducible (first | exact Below.refl _ _ | assumption | refine below_drewN ?_ _ | refine Below.drew ?_ | refine Below.alloc ?_ ?_ _ | refine Below.setCell ?_ ?_ _)) | go_size))) hgrow3 (by first | omega | (simp; omega)) (fun _ h => by cases h); have C3 : Blk w3 w.heap.size #[.int .u64 m, .int .u64 d, .int .u64 n] 24 := Blk.grown (by (repeat' (first | (with_reducible (first | assumption | exact Blk.alloc_new _ _ _ (by first | rfl | (simp; done) | omega) | apply Blk.drewN | apply Blk.drew | apply Blk.alloc_old | apply Blk.set_same | apply Blk.set_other)) | (show (_ : Nat) ≠ _; first | omega | (simp; done) | (simp; omega)) | ((simp only [List.setIfInBounds_toArray, List.set_cons_succ, List.set_cons_zero]); (with_reducible exact rfl)) | (with_reducible exact rfl) | (show (_ : Array Value) = _; exact rfl)))) hgrow3 hne3; replace cC := C3.cell; replace fC := C3.frozen; replace zC := C3.size; have H3 : HoldC w3 (w.heap.size + 1) (.slice (some ⟨gg3, 0, none⟩) (1) cap3) ([⟨0, 0, 0, 0⟩]) := (hown3); clear hat3 hgrow3 hown3) | (refine wpList_append_any (by rfl) (.tmp 36) (.tmp 37) 78 (by rfl) (w.heap.size + 1) 67 io (.agg #[.int .i64 0, .int .u64 0, .int .i64 0, .int .i64 0]) 4 32 Try.underlying78 Jio.out Jz0.out Jz1.out Jz2.out (by rfl) (by omega) (Value.slice (some ⟨gg3, 0, none⟩) (1) cap3) 1 (flatc [⟨0, 0, 0, 0⟩]) (by rfl) H3 (by omega) a L.length cap (flatc L) (by rfl) (flatc_len L) hnil.out (fun A hA => calls_news' (Hc.out.below (by (repeat' (first | (with_reducible (first | exact Below.refl _ _ | assumption | refine below_drewN ?_ _ | refine Below.drew ?_ | refine Below.alloc ?_ ?_ _ | refine Below.setCell ?_ ?_ _)) | go_size)))) hA) (flatc_one L) (by unfold maxLen; omega) (by omega) (by first | omega | (simp; omega)) ?_; intro gg4 cap4 w4 hown4 hgrow4 hlt4; have hb3 : w.heap.size + 1 ≤ gg3 := (World.ownsRow.lt H3 gg3 rfl).1; have hne4 : some w.heap.size ≠ (Value.slice (some ⟨gg3, 0, none⟩) (1) cap3).ownBlock := (by intro e; simp [Value.ownBlock] at e; omega); have g4 : Below w.heap.size w w4 := below_grown (by (repeat' (first | (with_reducible (first | exact Below.refl _ _ | assumption | refine below_drewN ?_ _ | refine Below.drew ?_ | refine Below.alloc ?_ ?_ _ | refine Below.setCell ?_ ?_ _)) | go_size))) hgrow4 (by first | omega | (simp; omega)) (fun K hK => by simp [Value.ownBlock] at hK; omega); have C4 : Blk w4 w.heap.size #[.int .u64 m, .int .u64 d, .int .u64 n] 24 := Blk.grown (by (repeat' (first | (with_reducible (first | assumption | exact Blk.alloc_new _ _ _ (by first | rfl | (simp; done) | omega) | apply Blk.drewN | apply Blk.drew | apply Blk.alloc_old | apply Blk.set_same | apply Blk.set_other)) | (show (_ : Nat) ≠ _; first | omega | (simp; done) | (simp; omega)) | ((simp only [List.setIfInBounds_toArray, List.set_cons_succ, List.set_cons_zero]); (with_reducible exact rfl)) | (with_reducible exact rfl) | (show (_ : Array Value) = _; exact rfl)))) hgrow4 hne4; replace cC := C4.cell; replace fC := C4.frozen; replace zC := C4.size; have H4 : HoldC w4 (w.heap.size + 1) (Value.slice (some ⟨gg4, 0, none⟩) (1 + L.length) cap4) (⟨0, 0, 0, 0⟩ :: L) := (by unfold HoldC; rw [show (⟨0, 0, 0, 0⟩ :: L : List CL).length = 1 + L.length by simp; omega]; exact hown4); clear hgrow4 hown4) | (refine wpList_append_lies _ (by rfl) (.tmp 39) (.tmp 42) 78 (by rfl) (w.heap.size + 1) 67 io (.agg #[.int .i64 0, .int .u64 0, .int .i64 0, .int .i64 0]) 4 32 Try.underlying78 Jio.out Jz0.out Jz1.out Jz2.out (by rfl) (by omega) (Value.slice (some ⟨gg4, 0, none⟩) (1 + L.length) cap4) (1 + L.length) (flatc ((⟨0, 0, 0, 0⟩ :: L))) (by rfl) (HoldC.own (H4.below (by (repeat' (first | (with_reducible (first | exact Below.refl _ _ | assumption | refine below_drewN ?_ _ | refine Below.drew ?_ | refine Below.alloc ?_ ?_ _ | refine Below.setCell ?_ ?_ _)) | go_size)))) (by simp; omega)) ⟨w4.heap.size, 0, none⟩ 1 1 [.int .i64 2, .int .u64 0, .int .i64 0, .int .i64 hd_] (by rfl) (by rfl) (World.news_of_block (show Blk _ (w4.heap.size) (#[.int .i64 2, .int .u64 0, .int .i64 0, .int .i64 hd_]) 67 from (by (repeat' (first | (with_reducible (first | assumption | exact Blk.alloc_new _ _ _ (by first | rfl | (simp; done) | omega) | apply Blk.drewN | apply Blk.drew | apply Blk.alloc_old | apply Blk.set_same | apply Blk.set_other)) | (show (_ : Nat) ≠ _; first | omega | (simp; done) | (simp; omega)) | ((simp only [List.setIfInBounds_toArray, List.set_cons_succ, List.set_cons_zero]); (with_reducible exact rfl)) | (with_reducible exact rfl) | (show (_ : Array Value) = _; exact rfl)))))) (flatc_one [⟨2, 0, 0, hd_⟩]) (by omega) (by unfold maxLen; omega) (by omega) (by first | omega | (simp; omega)) _ rfl ?_; intro gg5 cap5 w5 hown5 hgrow5 hat5 hlt5; have hne5 : some w.heap.size ≠ (Value.slice (some ⟨gg4, 0, none⟩) (1 + L.length) cap4).ownBlock := (by have hb4 := (World.ownsRow.lt H4 gg4 rfl).1; intro e; simp [Value.ownBlock] at e; omega); have g5 : Below w.heap.size w w5 := below_grown (by (repeat' (first | (with_reducible (first | exact Below.refl _ _ | assumption | refine below_drewN ?_ _ | refine Below.drew ?_ | refine Below.alloc ?_ ?_ _ | refine Below.setCell ?_ ?_ _)) | go_size))) hgrow5 (by first | omega | (simp; omega)) (fun K hK => by have hb4 := (World.ownsRow.lt H4 gg4 rfl).1; simp [Value.ownBlock] at hK; omega); have C5 : Blk w5 w.heap.size #[.int .u64 m, .int .u64 d, .int .u64 n] 24 := Blk.grown (by (repeat' (first | (with_reducible (first | assumption | exact Blk.alloc_new _ _ _ (by first | rfl | (simp; done) | omega) | apply Blk.drewN | apply Blk.drew | apply Blk.alloc_old | apply Blk.set_same | apply Blk.set_other)) | (show (_ : Nat) ≠ _; first | omega | (simp; done) | (simp; omega)) | ((simp only [List.setIfInBounds_toArray, List.set_cons_succ, List.set_cons_zero]); (with_reducible exact rfl)) | (with_reducible exact rfl) | (show (_ : Array Value) = _; exact rfl)))) hgrow5 hne5; replace cC := C5.cell; replace fC := C5.frozen; replace zC := C5.size; have H5 : HoldC w5 (w.heap.size + 1) (.slice (some ⟨gg5, 0, none⟩) (1 + L.length + 1) cap5) ((⟨0, 0, 0, 0⟩ :: L) ++ [⟨2, 0, 0, hd_⟩]) := (by unfold HoldC; rw [List.length_append, flatc_app, show (⟨0, 0, 0, 0⟩ :: L : List CL).length = 1 + L.length by simp; omega]; exact hown5); clear hat5 hgrow5 hown5))
  refine (story_any m d n _ (1 + L.length + 1) _ _ st _ hm hd hn (by simp; omega) (by omega) (H5.at_ (by simp; omega)) Ok.out HS.out).mono ?_
  rintro e w6 ⟨v, rfl, H6, hb6⟩
  have C6 : Blk w6 (w.heap.size) #[.int .u64 m, .int .u64 d, .int .u64 n] 24 := Blk.below (by (repeat' (first | (with_reducible (first | assumption | exact Blk.alloc_new _ _ _ (by first | rfl | (simp; done) | omega) | apply Blk.drewN | apply Blk.drew | apply Blk.alloc_old | apply Blk.set_same | apply Blk.set_other)) | (show (_ : Nat) ≠ _; first | omega | (simp; done) | (simp; omega)) | ((simp only [List.setIfInBounds_toArray, List.set_cons_succ, List.set_cons_zero]); (with_reducible exact rfl)) | (with_reducible exact rfl) | (show (_ : Array Value) = _; exact rfl)))) hb6 (by first | (simp; done) | omega | (simp; omega))
  have g6 : Below w.heap.size w w6 := by refine Below.trans ?_ (hb6.mono ?_) <;> (repeat' (first | (with_reducible (first | exact Below.refl _ _ | assumption | refine below_drewN ?_ _ | refine Below.drew ?_ | refine Below.alloc ?_ ?_ _ | refine Below.setCell ?_ ?_ _)) | go_size))
  have hz6 := hb6.size
  (try simp at hz6)
  clear hb6
  replace cC := C6.cell
  replace fC := C6.frozen
  replace zC := C6.size
  have hw6 : w.heap.size < w6.heap.size := zC
  obtain ⟨g, cp, rfl, hgb, hgl⟩ := H6.len hpos
  obtain ⟨BS, hBS⟩ : ∃ B, w5.heap.size + 1 + 1 + 1 = B := ⟨_, rfl⟩
  rw [hBS] at H6
  go_wp2_with (refine store_blk 65 (.tmp 8) (.tmp 48) (w6.heap.size) #[.bool false, .int .u64 0, .int .u64 0, .int .u64 0, .int .u64 0, .int .u64 0, .int .u64 0, .int .u64 0, .int .u64 0, .bool false, .int .u64 0, .int .u64 0, .int .u64 0, .int .u64 0, .int .u64 0, .int .u64 0, .int .u64 0, .int .u64 0, .bool false, .int .u64 0, .int .u64 0, .int .u64 0] #[.bool st.l.has, .int .u64 st.l.D.f.X, .int .u64 (hi (st.l.D.f.Y)), .int .u64 (lo (st.l.D.f.Y)), .int .u64 st.l.D.f.M, .int .u64 st.l.D.t.X, .int .u64 (hi (st.l.D.t.Y)), .int .u64 (lo (st.l.D.t.Y)), .int .u64 st.l.D.t.M, .bool st.l.D.b, .int .u64 st.l.E.f.X, .int .u64 (hi (st.l.E.f.Y)), .int .u64 (lo (st.l.E.f.Y)), .int .u64 st.l.E.f.M, .int .u64 st.l.E.t.X, .int .u64 (hi (st.l.E.t.Y)), .int .u64 (lo (st.l.E.t.Y)), .int .u64 st.l.E.t.M, .bool st.l.E.b, .int .u64 st.l.p, .int .u64 st.l.e, .int .u64 st.l.t] 65 (by rfl) (by rfl) (by rfl) (by rfl) (by (repeat' (first | (with_reducible (first | assumption | exact Blk.alloc_new _ _ _ (by first | rfl | (simp; done) | omega) | apply Blk.drewN | apply Blk.drew | apply Blk.alloc_old | apply Blk.set_same | apply Blk.set_other)) | (show (_ : Nat) ≠ _; first | omega | (simp; done) | (simp; omega)) | ((simp only [List.setIfInBounds_toArray, List.set_cons_succ, List.set_cons_zero]); (with_reducible exact rfl)) | (with_reducible exact rfl) | (show (_ : Array Value) = _; exact rfl)))) rfl (by kernel_rfl) (by simp [Value.oneCell']) ?_; intro w7 X7 kB7 kO7 hs7; have g7 : Below w.heap.size w w7 := kB7 _ _ (by first | (simp; done) | omega | (simp; omega)) (by (repeat' (first | (with_reducible (first | exact Below.refl _ _ | assumption | refine below_drewN ?_ _ | refine Below.drew ?_ | refine Below.alloc ?_ ?_ _ | refine Below.setCell ?_ ?_ _)) | go_size))); have H7 : HoldW w7 BS (.slice (some ⟨g, 0, none⟩) st.ws.length cp) st.ws := H6.below (kB7 _ _ (Nat.le_refl _) (by (repeat' (first | (with_reducible (first | exact Below.refl _ _ | assumption | refine below_drewN ?_ _ | refine Below.drew ?_ | refine Below.alloc ?_ ?_ _ | refine Below.setCell ?_ ?_ _)) | go_size)))); have C7 := kO7 (w.heap.size) #[.int .u64 m, .int .u64 d, .int .u64 n] 24 (by first | (simp; done) | omega | (simp; omega)) (by (repeat' (first | (with_reducible (first | assumption | exact Blk.alloc_new _ _ _ (by first | rfl | (simp; done) | omega) | apply Blk.drewN | apply Blk.drew | apply Blk.alloc_old | apply Blk.set_same | apply Blk.set_other)) | (show (_ : Nat) ≠ _; first | omega | (simp; done) | (simp; omega)) | ((simp only [List.setIfInBounds_toArray, List.set_cons_succ, List.set_cons_zero]); (with_reducible exact rfl)) | (with_reducible exact rfl) | (show (_ : Array Value) = _; exact rfl)))); have cX := X7.cell; have fX := X7.frozen; have zX := X7.size; replace cC := C7.cell; replace fC := C7.frozen; replace zC := C7.size)
  clear kB7 kO7 hs7 H6 H5 H4 H3
  go_loopw [59] (fun i wr => SSRel m d n x W st (w6.heap.size) BS (.slice (some ⟨g, 0, none⟩) st.ws.length cp) w i wr) (fun i _ => st.ws.length - (intOf i).toNat)
  case atStart => exact ⟨0, Nat.zero_le _, rfl, g7, C7, X7, H7, fun j v hj => absurd hj (by omega)⟩
  case round =>
    clear X7 H7 C7 g7 cX fX zX cC fC zC
    obtain ⟨k, hk, rfl, g0, C0, X0, H0, Hno⟩ := hrel
    have cC := C0.cell; have fC := C0.frozen; have zC := C0.size
    have cX := X0.cell; have fX := X0.frozen; have zX := X0.size
    have nxr : w6.heap.size < wr.heap.size := zX
    have nwr : w.heap.size < wr.heap.size := zC
    by_cases hlt0 : k < st.ws.length
    · obtain ⟨vq, hv⟩ : ∃ v, st.ws[k]? = some v := ⟨_, List.getElem?_eq_getElem hlt0⟩
      obtain ⟨v0, v1⟩ := H0.at_ hv
      obtain ⟨r0, r1⟩ := Hws.out vq (List.mem_of_getElem? hv)
      obtain ⟨q, hq⟩ : ∃ q, vq.p * 65536 = q := ⟨_, rfl⟩
      have iq : In128 q := by rw [← hq]; unfold In128; omega
      have hq9 : 0 ≤ q ∧ q ≤ 68719476736 := by omega
      have Hq := hide hq
      go_wp2_with fail
      refine (runits vq.p q _ (by omega) Hq.out).mono ?_
      rintro e w8 ⟨rfl, hb8⟩
      have C8 : Blk w8 (w.heap.size) #[.int .u64 m, .int .u64 d, .int .u64 n] 24 := Blk.below (by (repeat' (first | (with_reducible (first | assumption | exact Blk.alloc_new _ _ _ (by first | rfl | (simp; done) | omega) | apply Blk.drewN | apply Blk.drew | apply Blk.alloc_old | apply Blk.set_same | apply Blk.set_other)) | (show (_ : Nat) ≠ _; first | omega | (simp; done) | (simp; omega)) | ((simp only [List.setIfInBounds_toArray, List.set_cons_succ, List.set_cons_zero]); (with_reducible exact rfl)) | (with_reducible exact rfl) | (show (_ : Array Value) = _; exact rfl)))) hb8 (by first | (simp; done) | omega | (simp; omega))
      have X8 : Blk w8 (w6.heap.size) #[.bool st.l.has, .int .u64 st.l.D.f.X, .int .u64 (hi (st.l.D.f.Y)), .int .u64 (lo (st.l.D.f.Y)), .int .u64 st.l.D.f.M, .int .u64 st.l.D.t.X, .int .u64 (hi (st.l.D.t.Y)), .int .u64 (lo (st.l.D.t.Y)), .int .u64 st.l.D.t.M, .bool st.l.D.b, .int .u64 st.l.E.f.X, .int .u64 (hi (st.l.E.f.Y)), .int .u64 (lo (st.l.E.f.Y)), .int .u64 st.l.E.f.M, .int .u64 st.l.E.t.X, .int .u64 (hi (st.l.E.t.Y)), .int .u64 (lo (st.l.E.t.Y)), .int .u64 st.l.E.t.M, .bool st.l.E.b, .int .u64 st.l.p, .int .u64 st.l.e, .int .u64 st.l.t] 65 := Blk.below (by (repeat' (first | (with_reducible (first | assumption | exact Blk.alloc_new _ _ _ (by first | rfl | (simp; done) | omega) | apply Blk.drewN | apply Blk.drew | apply Blk.alloc_old | apply Blk.set_same | apply Blk.set_other)) | (show (_ : Nat) ≠ _; first | omega | (simp; done) | (simp; omega)) | ((simp only [List.setIfInBounds_toArray, List.set_cons_succ, List.set_cons_zero]); (with_reducible exact rfl)) | (with_reducible exact rfl) | (show (_ : Array Value) = _; exact rfl)))) hb8 (by first | (simp; done) | omega | (simp; omega))
      have S8 : Blk w8 (wr.heap.size) #[.int .u64 vq.at_, .int .u64 vq.p] 84 := Blk.below (by (repeat' (first | (with_reducible (first | assumption | exact Blk.alloc_new _ _ _ (by first | rfl | (simp; done) | omega) | apply Blk.drewN | apply Blk.drew | apply Blk.alloc_old | apply Blk.set_same | apply Blk.set_other)) | (show (_ : Nat) ≠ _; first | omega | (simp; done) | (simp; omega)) | ((simp only [List.setIfInBounds_toArray, List.set_cons_succ, List.set_cons_zero]); (with_reducible exact rfl)) | (with_reducible exact rfl) | (show (_ : Array Value) = _; exact rfl)))) hb8 (by first | (simp; done) | omega | (simp; omega))
      have g8 : Below wr.heap.size wr w8 := by refine Below.trans ?_ (hb8.mono ?_) <;> (repeat' (first | (with_reducible (first | exact Below.refl _ _ | assumption | refine below_drewN ?_ _ | refine Below.drew ?_ | refine Below.alloc ?_ ?_ _ | refine Below.setCell ?_ ?_ _)) | go_size))
      have hz8 := hb8.size
      (try simp at hz8)
      clear hb8
      replace cC := C8.cell
      replace fC := C8.frozen
      replace zC := C8.size
      replace cX := X8.cell
      replace fX := X8.frozen
      replace zX := X8.size
      have cS := S8.cell
      have fS := S8.frozen
      have zS := S8.size
      have g8' : Below wr.heap.size wr w8 := g8
      have hrN : wr.heap.size < w8.heap.size := zS
      by_cases hlt1 : vq.at_ < x
      · have dl : decide (vq.at_ < x) = true := decide_eq_true hlt1
        obtain ⟨s, hs⟩ : ∃ s, sk m d n (x - vq.at_) = s := ⟨_, rfl⟩
        have hws1 : IntKind.u64.wrap (x - vq.at_) = x - vq.at_ := IntWalk.u64_in _ ⟨by omega, by omega⟩
        have is : In128 s := by rw [← hs]; exact sk_in hm.1 hd.1 hn.1 (by omega) (by omega)
        have hsr : 0 ≤ s ∧ s ≤ 4294967295 * (x - vq.at_) := by rw [← hs]; exact sk_rng hm.1 hd.1 hn.1 (by omega)
        have hask : vq.asked m d n x = q + s := by
          unfold WN.asked WN.val
          rw [if_pos hlt1, hq, ← hs, sk_sv' Hk1.out.1]
        obtain ⟨r, hr⟩ : ∃ r, q + s = r := ⟨_, rfl⟩
        have ir : In128 r := by rw [← hr]; unfold In128; omega
        have hm128 : m128 (q + s) = r := by rw [hr]; exact m128_of ir
        have Hs := hide hs; have Hr := hide hm128
        rw [hr] at hask
        have Hask := hide hask
        clear hs hm128 hr hq hask
        go_wp2_with fail
        refine wp_forget (fun v => Below wr.heap.size wr v ∧ Blk v (w.heap.size) #[.int .u64 m, .int .u64 d, .int .u64 n] 24 ∧ Blk v (w6.heap.size) #[.bool st.l.has, .int .u64 st.l.D.f.X, .int .u64 (hi (st.l.D.f.Y)), .int .u64 (lo (st.l.D.f.Y)), .int .u64 st.l.D.f.M, .int .u64 st.l.D.t.X, .int .u64 (hi (st.l.D.t.Y)), .int .u64 (lo (st.l.D.t.Y)), .int .u64 st.l.D.t.M, .bool st.l.D.b, .int .u64 st.l.E.f.X, .int .u64 (hi (st.l.E.f.Y)), .int .u64 (lo (st.l.E.f.Y)), .int .u64 st.l.E.f.M, .int .u64 st.l.E.t.X, .int .u64 (hi (st.l.E.t.Y)), .int .u64 (lo (st.l.E.t.Y)), .int .u64 st.l.E.t.M, .bool st.l.E.b, .int .u64 st.l.p, .int .u64 st.l.e, .int .u64 st.l.t] 65 ∧ Blk v (wr.heap.size) #[.int .u64 vq.at_, .int .u64 vq.p] 84 ∧ Blk v (w8.heap.size) #[.int .u64 (dg0 (q)), .int .u64 (dg1 (q)), .int .u64 (dg2 (q)), .int .u64 (dg3 (q))] 31) ⟨by (repeat' (first | (with_reducible (first | exact Below.refl _ _ | assumption | refine below_drewN ?_ _ | refine Below.drew ?_ | refine Below.alloc ?_ ?_ _ | refine Below.setCell ?_ ?_ _)) | go_size)), by (repeat' (first | (with_reducible (first | assumption | exact Blk.alloc_new _ _ _ (by first | rfl | (simp; done) | omega) | apply Blk.drewN | apply Blk.drew | apply Blk.alloc_old | apply Blk.set_same | apply Blk.set_other)) | (show (_ : Nat) ≠ _; first | omega | (simp; done) | (simp; omega)) | ((simp only [List.setIfInBounds_toArray, List.set_cons_succ, List.set_cons_zero]); (with_reducible exact rfl)) | (with_reducible exact rfl) | (show (_ : Array Value) = _; exact rfl))), by (repeat' (first | (with_reducible (first | assumption | exact Blk.alloc_new _ _ _ (by first | rfl | (simp; done) | omega) | apply Blk.drewN | apply Blk.drew | apply Blk.alloc_old | apply Blk.set_same | apply Blk.set_other)) | (show (_ : Nat) ≠ _; first | omega | (simp; done) | (simp; omega)) | ((simp only [List.setIfInBounds_toArray, List.set_cons_succ, List.set_cons_zero]); (with_reducible exact rfl)) | (with_reducible exact rfl) | (show (_ : Array Value) = _; exact rfl))), by (repeat' (first | (with_reducible (first | assumption | exact Blk.alloc_new _ _ _ (by first | rfl | (simp; done) | omega) | apply Blk.drewN | apply Blk.drew | apply Blk.alloc_old | apply Blk.set_same | apply Blk.set_other)) | (show (_ : Nat) ≠ _; first | omega | (simp; done) | (simp; omega)) | ((simp only [List.setIfInBounds_toArray, List.set_cons_succ, List.set_cons_zero]); (with_reducible exact rfl)) | (with_reducible exact rfl) | (show (_ : Array Value) = _; exact rfl))), by (repeat' (first | (with_reducible (first | assumption | exact Blk.alloc_new _ _ _ (by first | rfl | (simp; done) | omega) | apply Blk.drewN | apply Blk.drew | apply Blk.alloc_old | apply Blk.set_same | apply Blk.set_other)) | (show (_ : Nat) ≠ _; first | omega | (simp; done) | (simp; omega)) | ((simp only [List.setIfInBounds_toArray, List.set_cons_succ, List.set_cons_zero]); (with_reducible exact rfl)) | (with_reducible exact rfl) | (show (_ : Array Value) = _; exact rfl)))⟩ ?_
        rintro w9 ⟨g9, C9, X9, S9, V9⟩
        have hz9 := g9.size
        replace cC := C9.cell
        replace fC := C9.frozen
        replace zC := C9.size
        replace cX := X9.cell
        replace fX := X9.frozen
        replace zX := X9.size
        replace cS := S9.cell
        replace fS := S9.frozen
        replace zS := S9.size
        have cV := V9.cell
        have fV := V9.frozen
        have zV := V9.size
        refine wp_forget (fun v => Below wr.heap.size wr v ∧ Blk v (w.heap.size) #[.int .u64 m, .int .u64 d, .int .u64 n] 24 ∧ Blk v (w6.heap.size) #[.bool st.l.has, .int .u64 st.l.D.f.X, .int .u64 (hi (st.l.D.f.Y)), .int .u64 (lo (st.l.D.f.Y)), .int .u64 st.l.D.f.M, .int .u64 st.l.D.t.X, .int .u64 (hi (st.l.D.t.Y)), .int .u64 (lo (st.l.D.t.Y)), .int .u64 st.l.D.t.M, .bool st.l.D.b, .int .u64 st.l.E.f.X, .int .u64 (hi (st.l.E.f.Y)), .int .u64 (lo (st.l.E.f.Y)), .int .u64 st.l.E.f.M, .int .u64 st.l.E.t.X, .int .u64 (hi (st.l.E.t.Y)), .int .u64 (lo (st.l.E.t.Y)), .int .u64 st.l.E.t.M, .bool st.l.E.b, .int .u64 st.l.p, .int .u64 st.l.e, .int .u64 st.l.t] 65 ∧ Blk v (wr.heap.size) #[.int .u64 vq.at_, .int .u64 vq.p] 84 ∧ Blk v (w8.heap.size) #[.int .u64 (dg0 (q)), .int .u64 (dg1 (q)), .int .u64 (dg2 (q)), .int .u64 (dg3 (q))] 31) ⟨by (repeat' (first | (with_reducible (first | exact Below.refl _ _ | assumption | refine below_drewN ?_ _ | refine Below.drew ?_ | refine Below.alloc ?_ ?_ _ | refine Below.setCell ?_ ?_ _)) | go_size)), by (repeat' (first | (with_reducible (first | assumption | exact Blk.alloc_new _ _ _ (by first | rfl | (simp; done) | omega) | apply Blk.drewN | apply Blk.drew | apply Blk.alloc_old | apply Blk.set_same | apply Blk.set_other)) | (show (_ : Nat) ≠ _; first | omega | (simp; done) | (simp; omega)) | ((simp only [List.setIfInBounds_toArray, List.set_cons_succ, List.set_cons_zero]); (with_reducible exact rfl)) | (with_reducible exact rfl) | (show (_ : Array Value) = _; exact rfl))), by (repeat' (first | (with_reducible (first | assumption | exact Blk.alloc_new _ _ _ (by first | rfl | (simp; done) | omega) | apply Blk.drewN | apply Blk.drew | apply Blk.alloc_old | apply Blk.set_same | apply Blk.set_other)) | (show (_ : Nat) ≠ _; first | omega | (simp; done) | (simp; omega)) | ((simp only [List.setIfInBounds_toArray, List.set_cons_succ, List.set_cons_zero]); (with_reducible exact rfl)) | (with_reducible exact rfl) | (show (_ : Array Value) = _; exact rfl))), by (repeat' (first | (with_reducible (first | assumption | exact Blk.alloc_new _ _ _ (by first | rfl | (simp; done) | omega) | apply Blk.drewN | apply Blk.drew | apply Blk.alloc_old | apply Blk.set_same | apply Blk.set_other)) | (show (_ : Nat) ≠ _; first | omega | (simp; done) | (simp; omega)) | ((simp only [List.setIfInBounds_toArray, List.set_cons_succ, List.set_cons_zero]); (with_reducible exact rfl)) | (with_reducible exact rfl) | (show (_ : Array Value) = _; exact rfl))), by (repeat' (first | (with_reducible (first | assumption | exact Blk.alloc_new _ _ _ (by first | rfl | (simp; done) | omega) | apply Blk.drewN | apply Blk.drew | apply Blk.alloc_old | apply Blk.set_same | apply Blk.set_other)) | (show (_ : Nat) ≠ _; first | omega | (simp; done) | (simp; omega)) | ((simp only [List.setIfInBounds_toArray, List.set_cons_succ, List.set_cons_zero]); (with_reducible exact rfl)) | (with_reducible exact rfl) | (show (_ : Array Value) = _; exact rfl)))⟩ ?_
        rintro v10 ⟨gv10, Cv10, Xv10, Sv10, Vv10⟩
        have qC10 := blk_calm Cv10
        have qX10 := blk_calm Xv10
        have qS10 := blk_calm Sv10
        have qV10 := blk_calm Vv10
        refine wp_region_sink_below 8 (by kernel_rfl) (by kernel_rfl) ?_
        simp only [List.take_succ_cons, List.take_zero, List.drop_succ_cons, List.drop_zero]
        repeat (go_big_quiet_step ((first
            | (go_at_call 41; (with_reducible exact Calls.regrown_of (rservice_any m d n (x - vq.at_) s _ hm.1 hd.1 hn.1 (by omega) Hs.out)))
            | (go_at_call 40; (with_reducible exact Calls.regrown_of (rPlusM q s r _ iq is Hr.out))))))
        refine wpQuiet_nil ?_
        intro _ hw'
        obtain ⟨pq, hw''⟩ := hw'
        subst hw''
        have hb10 := below_regrown v10 pq.d pq.os
        generalize Sort.grow (redrawn v10 pq.d) pq.os = w10 at *
        have C10 : Blk w10 (w.heap.size) #[.int .u64 m, .int .u64 d, .int .u64 n] 24 := Blk.below Cv10 hb10 Cv10.size
        have X10 : Blk w10 (w6.heap.size) #[.bool st.l.has, .int .u64 st.l.D.f.X, .int .u64 (hi (st.l.D.f.Y)), .int .u64 (lo (st.l.D.f.Y)), .int .u64 st.l.D.f.M, .int .u64 st.l.D.t.X, .int .u64 (hi (st.l.D.t.Y)), .int .u64 (lo (st.l.D.t.Y)), .int .u64 st.l.D.t.M, .bool st.l.D.b, .int .u64 st.l.E.f.X, .int .u64 (hi (st.l.E.f.Y)), .int .u64 (lo (st.l.E.f.Y)), .int .u64 st.l.E.f.M, .int .u64 st.l.E.t.X, .int .u64 (hi (st.l.E.t.Y)), .int .u64 (lo (st.l.E.t.Y)), .int .u64 st.l.E.t.M, .bool st.l.E.b, .int .u64 st.l.p, .int .u64 st.l.e, .int .u64 st.l.t] 65 := Blk.below Xv10 hb10 Xv10.size
        have S10 : Blk w10 (wr.heap.size) #[.int .u64 vq.at_, .int .u64 vq.p] 84 := Blk.below Sv10 hb10 Sv10.size
        have V10 : Blk w10 (w8.heap.size) #[.int .u64 (dg0 (q)), .int .u64 (dg1 (q)), .int .u64 (dg2 (q)), .int .u64 (dg3 (q))] 31 := Blk.below Vv10 hb10 Vv10.size
        have g10 : Below wr.heap.size wr w10 := gv10.trans (hb10.mono gv10.size)
        have hz10 : wr.heap.size ≤ w10.heap.size := g10.size
        clear hb10 gv10 Cv10 qC10 Xv10 qX10 Sv10 qS10 Vv10 qV10
        replace cC := C10.cell
        replace fC := C10.frozen
        replace zC := C10.size
        replace cX := X10.cell
        replace fX := X10.frozen
        replace zX := X10.size
        replace cS := S10.cell
        replace fS := S10.frozen
        replace zS := S10.size
        replace cV := V10.cell
        replace fV := V10.frozen
        replace zV := V10.size
        refine store_blk 31 (.tmp 14) (.tmp 77) (w8.heap.size) #[.int .u64 (dg0 (q)), .int .u64 (dg1 (q)), .int .u64 (dg2 (q)), .int .u64 (dg3 (q))] #[.int .u64 (dg0 (r)), .int .u64 (dg1 (r)), .int .u64 (dg2 (r)), .int .u64 (dg3 (r))] 31 (by rfl) (by rfl) (by rfl) (by rfl) (by (repeat' (first | (with_reducible (first | assumption | exact Blk.alloc_new _ _ _ (by first | rfl | (simp; done) | omega) | apply Blk.drewN | apply Blk.drew | apply Blk.alloc_old | apply Blk.set_same | apply Blk.set_other)) | (show (_ : Nat) ≠ _; first | omega | (simp; done) | (simp; omega)) | ((simp only [List.setIfInBounds_toArray, List.set_cons_succ, List.set_cons_zero]); (with_reducible exact rfl)) | (with_reducible exact rfl) | (show (_ : Array Value) = _; exact rfl)))) rfl (by kernel_rfl) (by simp [Value.oneCell']) ?_
        intro w11 V11 kB11 kO11 hs11
        have g11 : Below wr.heap.size wr w11 := kB11 _ _ (by first | (simp; done) | omega | (simp; omega)) (by (repeat' (first | (with_reducible (first | exact Below.refl _ _ | assumption | refine below_drewN ?_ _ | refine Below.drew ?_ | refine Below.alloc ?_ ?_ _ | refine Below.setCell ?_ ?_ _)) | go_size)))
        have C11 := kO11 (w.heap.size) #[.int .u64 m, .int .u64 d, .int .u64 n] 24 (by first | (simp; done) | omega | (simp; omega)) (by (repeat' (first | (with_reducible (first | assumption | exact Blk.alloc_new _ _ _ (by first | rfl | (simp; done) | omega) | apply Blk.drewN | apply Blk.drew | apply Blk.alloc_old | apply Blk.set_same | apply Blk.set_other)) | (show (_ : Nat) ≠ _; first | omega | (simp; done) | (simp; omega)) | ((simp only [List.setIfInBounds_toArray, List.set_cons_succ, List.set_cons_zero]); (with_reducible exact rfl)) | (with_reducible exact rfl) | (show (_ : Array Value) = _; exact rfl))))
        have X11 := kO11 (w6.heap.size) #[.bool st.l.has, .int .u64 st.l.D.f.X, .int .u64 (hi (st.l.D.f.Y)), .int .u64 (lo (st.l.D.f.Y)), .int .u64 st.l.D.f.M, .int .u64 st.l.D.t.X, .int .u64 (hi (st.l.D.t.Y)), .int .u64 (lo (st.l.D.t.Y)), .int .u64 st.l.D.t.M, .bool st.l.D.b, .int .u64 st.l.E.f.X, .int .u64 (hi (st.l.E.f.Y)), .int .u64 (lo (st.l.E.f.Y)), .int .u64 st.l.E.f.M, .int .u64 st.l.E.t.X, .int .u64 (hi (st.l.E.t.Y)), .int .u64 (lo (st.l.E.t.Y)), .int .u64 st.l.E.t.M, .bool st.l.E.b, .int .u64 st.l.p, .int .u64 st.l.e, .int .u64 st.l.t] 65 (by first | (simp; done) | omega | (simp; omega)) (by (repeat' (first | (with_reducible (first | assumption | exact Blk.alloc_new _ _ _ (by first | rfl | (simp; done) | omega) | apply Blk.drewN | apply Blk.drew | apply Blk.alloc_old | apply Blk.set_same | apply Blk.set_other)) | (show (_ : Nat) ≠ _; first | omega | (simp; done) | (simp; omega)) | ((simp only [List.setIfInBounds_toArray, List.set_cons_succ, List.set_cons_zero]); (with_reducible exact rfl)) | (with_reducible exact rfl) | (show (_ : Array Value) = _; exact rfl))))
        have S11 := kO11 (wr.heap.size) #[.int .u64 vq.at_, .int .u64 vq.p] 84 (by first | (simp; done) | omega | (simp; omega)) (by (repeat' (first | (with_reducible (first | assumption | exact Blk.alloc_new _ _ _ (by first | rfl | (simp; done) | omega) | apply Blk.drewN | apply Blk.drew | apply Blk.alloc_old | apply Blk.set_same | apply Blk.set_other)) | (show (_ : Nat) ≠ _; first | omega | (simp; done) | (simp; omega)) | ((simp only [List.setIfInBounds_toArray, List.set_cons_succ, List.set_cons_zero]); (with_reducible exact rfl)) | (with_reducible exact rfl) | (show (_ : Array Value) = _; exact rfl))))
        replace cC := C11.cell; replace fC := C11.frozen; replace zC := C11.size; replace cX := X11.cell; replace fX := X11.frozen; replace zX := X11.size; replace cS := S11.cell; replace fS := S11.frozen; replace zS := S11.size; replace cV := V11.cell; replace fV := V11.frozen; replace zV := V11.size
        simp only [Act.put]
        by_cases hl : r < W
        · have hlt : decide (r < W) = true := decide_eq_true hl
          go_wp2_with fail
          refine wp_forget (fun v => Below wr.heap.size wr v ∧ Blk v (w.heap.size) #[.int .u64 m, .int .u64 d, .int .u64 n] 24 ∧ Blk v (w6.heap.size) #[.bool st.l.has, .int .u64 st.l.D.f.X, .int .u64 (hi (st.l.D.f.Y)), .int .u64 (lo (st.l.D.f.Y)), .int .u64 st.l.D.f.M, .int .u64 st.l.D.t.X, .int .u64 (hi (st.l.D.t.Y)), .int .u64 (lo (st.l.D.t.Y)), .int .u64 st.l.D.t.M, .bool st.l.D.b, .int .u64 st.l.E.f.X, .int .u64 (hi (st.l.E.f.Y)), .int .u64 (lo (st.l.E.f.Y)), .int .u64 st.l.E.f.M, .int .u64 st.l.E.t.X, .int .u64 (hi (st.l.E.t.Y)), .int .u64 (lo (st.l.E.t.Y)), .int .u64 st.l.E.t.M, .bool st.l.E.b, .int .u64 st.l.p, .int .u64 st.l.e, .int .u64 st.l.t] 65 ∧ Blk v (wr.heap.size) #[.int .u64 vq.at_, .int .u64 vq.p] 84 ∧ Blk v (w8.heap.size) #[.int .u64 (dg0 (r)), .int .u64 (dg1 (r)), .int .u64 (dg2 (r)), .int .u64 (dg3 (r))] 31) ⟨by (repeat' (first | (with_reducible (first | exact Below.refl _ _ | assumption | refine below_drewN ?_ _ | refine Below.drew ?_ | refine Below.alloc ?_ ?_ _ | refine Below.setCell ?_ ?_ _)) | go_size)), by (repeat' (first | (with_reducible (first | assumption | exact Blk.alloc_new _ _ _ (by first | rfl | (simp; done) | omega) | apply Blk.drewN | apply Blk.drew | apply Blk.alloc_old | apply Blk.set_same | apply Blk.set_other)) | (show (_ : Nat) ≠ _; first | omega | (simp; done) | (simp; omega)) | ((simp only [List.setIfInBounds_toArray, List.set_cons_succ, List.set_cons_zero]); (with_reducible exact rfl)) | (with_reducible exact rfl) | (show (_ : Array Value) = _; exact rfl))), by (repeat' (first | (with_reducible (first | assumption | exact Blk.alloc_new _ _ _ (by first | rfl | (simp; done) | omega) | apply Blk.drewN | apply Blk.drew | apply Blk.alloc_old | apply Blk.set_same | apply Blk.set_other)) | (show (_ : Nat) ≠ _; first | omega | (simp; done) | (simp; omega)) | ((simp only [List.setIfInBounds_toArray, List.set_cons_succ, List.set_cons_zero]); (with_reducible exact rfl)) | (with_reducible exact rfl) | (show (_ : Array Value) = _; exact rfl))), by (repeat' (first | (with_reducible (first | assumption | exact Blk.alloc_new _ _ _ (by first | rfl | (simp; done) | omega) | apply Blk.drewN | apply Blk.drew | apply Blk.alloc_old | apply Blk.set_same | apply Blk.set_other)) | (show (_ : Nat) ≠ _; first | omega | (simp; done) | (simp; omega)) | ((simp only [List.setIfInBounds_toArray, List.set_cons_succ, List.set_cons_zero]); (with_reducible exact rfl)) | (with_reducible exact rfl) | (show (_ : Array Value) = _; exact rfl))), by (repeat' (first | (with_reducible (first | assumption | exact Blk.alloc_new _ _ _ (by first | rfl | (simp; done) | omega) | apply Blk.drewN | apply Blk.drew | apply Blk.alloc_old | apply Blk.set_same | apply Blk.set_other)) | (show (_ : Nat) ≠ _; first | omega | (simp; done) | (simp; omega)) | ((simp only [List.setIfInBounds_toArray, List.set_cons_succ, List.set_cons_zero]); (with_reducible exact rfl)) | (with_reducible exact rfl) | (show (_ : Array Value) = _; exact rfl)))⟩ ?_
          rintro v12 ⟨gv12, Cv12, Xv12, Sv12, Vv12⟩
          have qC12 := blk_calm Cv12
          have qX12 := blk_calm Xv12
          have qS12 := blk_calm Sv12
          have qV12 := blk_calm Vv12
          refine wp_region_quiet_below (by kernel_rfl) (by kernel_rfl) ?_
          repeat (go_big_quiet_step ((first
              | (go_at_call 39; (with_reducible exact Calls.regrown_of (runits P1 W _ (by omega) HW.out)))
              | (go_at_call 42; (with_reducible exact Calls.regrown_of (rLessC r W true _ ir iW hlt))))))
          refine wpQuiet_nil ?_
          intro _ hw'
          obtain ⟨pq, hw''⟩ := hw'
          subst hw''
          have hb12 := below_regrown v12 pq.d pq.os
          generalize Sort.grow (redrawn v12 pq.d) pq.os = w12 at *
          have C12 : Blk w12 (w.heap.size) #[.int .u64 m, .int .u64 d, .int .u64 n] 24 := Blk.below Cv12 hb12 Cv12.size
          have X12 : Blk w12 (w6.heap.size) #[.bool st.l.has, .int .u64 st.l.D.f.X, .int .u64 (hi (st.l.D.f.Y)), .int .u64 (lo (st.l.D.f.Y)), .int .u64 st.l.D.f.M, .int .u64 st.l.D.t.X, .int .u64 (hi (st.l.D.t.Y)), .int .u64 (lo (st.l.D.t.Y)), .int .u64 st.l.D.t.M, .bool st.l.D.b, .int .u64 st.l.E.f.X, .int .u64 (hi (st.l.E.f.Y)), .int .u64 (lo (st.l.E.f.Y)), .int .u64 st.l.E.f.M, .int .u64 st.l.E.t.X, .int .u64 (hi (st.l.E.t.Y)), .int .u64 (lo (st.l.E.t.Y)), .int .u64 st.l.E.t.M, .bool st.l.E.b, .int .u64 st.l.p, .int .u64 st.l.e, .int .u64 st.l.t] 65 := Blk.below Xv12 hb12 Xv12.size
          have S12 : Blk w12 (wr.heap.size) #[.int .u64 vq.at_, .int .u64 vq.p] 84 := Blk.below Sv12 hb12 Sv12.size
          have V12 : Blk w12 (w8.heap.size) #[.int .u64 (dg0 (r)), .int .u64 (dg1 (r)), .int .u64 (dg2 (r)), .int .u64 (dg3 (r))] 31 := Blk.below Vv12 hb12 Vv12.size
          have g12 : Below wr.heap.size wr w12 := gv12.trans (hb12.mono gv12.size)
          have hz12 : wr.heap.size ≤ w12.heap.size := g12.size
          clear hb12 gv12 Cv12 qC12 Xv12 qX12 Sv12 qS12 Vv12 qV12
          replace cC := C12.cell
          replace fC := C12.frozen
          replace zC := C12.size
          replace cX := X12.cell
          replace fX := X12.frozen
          replace zX := X12.size
          replace cS := S12.cell
          replace fS := S12.frozen
          replace zS := S12.size
          replace cV := V12.cell
          replace fV := V12.frozen
          replace zV := V12.size
          go_wp2_with fail
          refine (hundred20_true _).mono ?_
          rintro e w13 ⟨rfl, hb13⟩
          have g13 : Below wr.heap.size wr w13 := by refine Below.trans ?_ (hb13.mono ?_) <;> first | ((repeat' (first | (with_reducible (first | exact Below.refl _ _ | assumption | refine below_drewN ?_ _ | refine Below.drew ?_ | refine Below.alloc ?_ ?_ _ | refine Below.setCell ?_ ?_ _)) | go_size)); done) | omega | (simp; omega)
          go_wp2
          go_ret
          exact ⟨rfl, g0.trans (g13.mono g0.size)⟩
        · have hlt : decide (r < W) = false := decide_eq_false hl
          have hnot : W ≤ vq.asked m d n x := by rw [Hask.out]; omega
          go_wp2_with fail
          refine wp_forget (fun v => Below wr.heap.size wr v ∧ Blk v (w.heap.size) #[.int .u64 m, .int .u64 d, .int .u64 n] 24 ∧ Blk v (w6.heap.size) #[.bool st.l.has, .int .u64 st.l.D.f.X, .int .u64 (hi (st.l.D.f.Y)), .int .u64 (lo (st.l.D.f.Y)), .int .u64 st.l.D.f.M, .int .u64 st.l.D.t.X, .int .u64 (hi (st.l.D.t.Y)), .int .u64 (lo (st.l.D.t.Y)), .int .u64 st.l.D.t.M, .bool st.l.D.b, .int .u64 st.l.E.f.X, .int .u64 (hi (st.l.E.f.Y)), .int .u64 (lo (st.l.E.f.Y)), .int .u64 st.l.E.f.M, .int .u64 st.l.E.t.X, .int .u64 (hi (st.l.E.t.Y)), .int .u64 (lo (st.l.E.t.Y)), .int .u64 st.l.E.t.M, .bool st.l.E.b, .int .u64 st.l.p, .int .u64 st.l.e, .int .u64 st.l.t] 65 ∧ Blk v (wr.heap.size) #[.int .u64 vq.at_, .int .u64 vq.p] 84 ∧ Blk v (w8.heap.size) #[.int .u64 (dg0 (r)), .int .u64 (dg1 (r)), .int .u64 (dg2 (r)), .int .u64 (dg3 (r))] 31) ⟨by (repeat' (first | (with_reducible (first | exact Below.refl _ _ | assumption | refine below_drewN ?_ _ | refine Below.drew ?_ | refine Below.alloc ?_ ?_ _ | refine Below.setCell ?_ ?_ _)) | go_size)), by (repeat' (first | (with_reducible (first | assumption | exact Blk.alloc_new _ _ _ (by first | rfl | (simp; done) | omega) | apply Blk.drewN | apply Blk.drew | apply Blk.alloc_old | apply Blk.set_same | apply Blk.set_other)) | (show (_ : Nat) ≠ _; first | omega | (simp; done) | (simp; omega)) | ((simp only [List.setIfInBounds_toArray, List.set_cons_succ, List.set_cons_zero]); (with_reducible exact rfl)) | (with_reducible exact rfl) | (show (_ : Array Value) = _; exact rfl))), by (repeat' (first | (with_reducible (first | assumption | exact Blk.alloc_new _ _ _ (by first | rfl | (simp; done) | omega) | apply Blk.drewN | apply Blk.drew | apply Blk.alloc_old | apply Blk.set_same | apply Blk.set_other)) | (show (_ : Nat) ≠ _; first | omega | (simp; done) | (simp; omega)) | ((simp only [List.setIfInBounds_toArray, List.set_cons_succ, List.set_cons_zero]); (with_reducible exact rfl)) | (with_reducible exact rfl) | (show (_ : Array Value) = _; exact rfl))), by (repeat' (first | (with_reducible (first | assumption | exact Blk.alloc_new _ _ _ (by first | rfl | (simp; done) | omega) | apply Blk.drewN | apply Blk.drew | apply Blk.alloc_old | apply Blk.set_same | apply Blk.set_other)) | (show (_ : Nat) ≠ _; first | omega | (simp; done) | (simp; omega)) | ((simp only [List.setIfInBounds_toArray, List.set_cons_succ, List.set_cons_zero]); (with_reducible exact rfl)) | (with_reducible exact rfl) | (show (_ : Array Value) = _; exact rfl))), by (repeat' (first | (with_reducible (first | assumption | exact Blk.alloc_new _ _ _ (by first | rfl | (simp; done) | omega) | apply Blk.drewN | apply Blk.drew | apply Blk.alloc_old | apply Blk.set_same | apply Blk.set_other)) | (show (_ : Nat) ≠ _; first | omega | (simp; done) | (simp; omega)) | ((simp only [List.setIfInBounds_toArray, List.set_cons_succ, List.set_cons_zero]); (with_reducible exact rfl)) | (with_reducible exact rfl) | (show (_ : Array Value) = _; exact rfl)))⟩ ?_
          rintro v12 ⟨gv12, Cv12, Xv12, Sv12, Vv12⟩
          have qC12 := blk_calm Cv12
          have qX12 := blk_calm Xv12
          have qS12 := blk_calm Sv12
          have qV12 := blk_calm Vv12
          refine wp_region_quiet_below (by kernel_rfl) (by kernel_rfl) ?_
          repeat (go_big_quiet_step ((first
              | (go_at_call 39; (with_reducible exact Calls.regrown_of (runits P1 W _ (by omega) HW.out)))
              | (go_at_call 42; (with_reducible exact Calls.regrown_of (rLessC r W false _ ir iW hlt))))))
          refine wpQuiet_nil ?_
          intro _ hw'
          obtain ⟨pq, hw''⟩ := hw'
          subst hw''
          have hb12 := below_regrown v12 pq.d pq.os
          generalize Sort.grow (redrawn v12 pq.d) pq.os = w12 at *
          have C12 : Blk w12 (w.heap.size) #[.int .u64 m, .int .u64 d, .int .u64 n] 24 := Blk.below Cv12 hb12 Cv12.size
          have X12 : Blk w12 (w6.heap.size) #[.bool st.l.has, .int .u64 st.l.D.f.X, .int .u64 (hi (st.l.D.f.Y)), .int .u64 (lo (st.l.D.f.Y)), .int .u64 st.l.D.f.M, .int .u64 st.l.D.t.X, .int .u64 (hi (st.l.D.t.Y)), .int .u64 (lo (st.l.D.t.Y)), .int .u64 st.l.D.t.M, .bool st.l.D.b, .int .u64 st.l.E.f.X, .int .u64 (hi (st.l.E.f.Y)), .int .u64 (lo (st.l.E.f.Y)), .int .u64 st.l.E.f.M, .int .u64 st.l.E.t.X, .int .u64 (hi (st.l.E.t.Y)), .int .u64 (lo (st.l.E.t.Y)), .int .u64 st.l.E.t.M, .bool st.l.E.b, .int .u64 st.l.p, .int .u64 st.l.e, .int .u64 st.l.t] 65 := Blk.below Xv12 hb12 Xv12.size
          have S12 : Blk w12 (wr.heap.size) #[.int .u64 vq.at_, .int .u64 vq.p] 84 := Blk.below Sv12 hb12 Sv12.size
          have V12 : Blk w12 (w8.heap.size) #[.int .u64 (dg0 (r)), .int .u64 (dg1 (r)), .int .u64 (dg2 (r)), .int .u64 (dg3 (r))] 31 := Blk.below Vv12 hb12 Vv12.size
          have g12 : Below wr.heap.size wr w12 := gv12.trans (hb12.mono gv12.size)
          have hz12 : wr.heap.size ≤ w12.heap.size := g12.size
          clear hb12 gv12 Cv12 qC12 Xv12 qX12 Sv12 qS12 Vv12 qV12
          replace cC := C12.cell
          replace fC := C12.frozen
          replace zC := C12.size
          replace cX := X12.cell
          replace fX := X12.frozen
          replace zX := X12.size
          replace cS := S12.cell
          replace fS := S12.frozen
          replace zS := S12.size
          replace cV := V12.cell
          replace fV := V12.frozen
          replace zV := V12.size
          go_wp2
          go_roundw
          case rel => exact ⟨k + 1, by omega, by go_num, g0.trans (g12.mono g0.size), by (repeat' (first | (with_reducible (first | assumption | exact Blk.alloc_new _ _ _ (by first | rfl | (simp; done) | omega) | apply Blk.drewN | apply Blk.drew | apply Blk.alloc_old | apply Blk.set_same | apply Blk.set_other)) | (show (_ : Nat) ≠ _; first | omega | (simp; done) | (simp; omega)) | ((simp only [List.setIfInBounds_toArray, List.set_cons_succ, List.set_cons_zero]); (with_reducible exact rfl)) | (with_reducible exact rfl) | (show (_ : Array Value) = _; exact rfl))), by (repeat' (first | (with_reducible (first | assumption | exact Blk.alloc_new _ _ _ (by first | rfl | (simp; done) | omega) | apply Blk.drewN | apply Blk.drew | apply Blk.alloc_old | apply Blk.set_same | apply Blk.set_other)) | (show (_ : Nat) ≠ _; first | omega | (simp; done) | (simp; omega)) | ((simp only [List.setIfInBounds_toArray, List.set_cons_succ, List.set_cons_zero]); (with_reducible exact rfl)) | (with_reducible exact rfl) | (show (_ : Array Value) = _; exact rfl))), H0.below g12, hide (notyet hv Hno.out hnot)⟩
          case measure => simp [intOf]; omega
      · have dl : decide (vq.at_ < x) = false := decide_eq_false hlt1
        have hask : vq.asked m d n x = q := by unfold WN.asked; rw [if_neg hlt1, hq]
        have Hask := hide hask
        clear hq hask
        go_wp2_with fail
        refine wp_forget (fun v => Below wr.heap.size wr v ∧ Blk v (w.heap.size) #[.int .u64 m, .int .u64 d, .int .u64 n] 24 ∧ Blk v (w6.heap.size) #[.bool st.l.has, .int .u64 st.l.D.f.X, .int .u64 (hi (st.l.D.f.Y)), .int .u64 (lo (st.l.D.f.Y)), .int .u64 st.l.D.f.M, .int .u64 st.l.D.t.X, .int .u64 (hi (st.l.D.t.Y)), .int .u64 (lo (st.l.D.t.Y)), .int .u64 st.l.D.t.M, .bool st.l.D.b, .int .u64 st.l.E.f.X, .int .u64 (hi (st.l.E.f.Y)), .int .u64 (lo (st.l.E.f.Y)), .int .u64 st.l.E.f.M, .int .u64 st.l.E.t.X, .int .u64 (hi (st.l.E.t.Y)), .int .u64 (lo (st.l.E.t.Y)), .int .u64 st.l.E.t.M, .bool st.l.E.b, .int .u64 st.l.p, .int .u64 st.l.e, .int .u64 st.l.t] 65 ∧ Blk v (wr.heap.size) #[.int .u64 vq.at_, .int .u64 vq.p] 84 ∧ Blk v (w8.heap.size) #[.int .u64 (dg0 (q)), .int .u64 (dg1 (q)), .int .u64 (dg2 (q)), .int .u64 (dg3 (q))] 31) ⟨by (repeat' (first | (with_reducible (first | exact Below.refl _ _ | assumption | refine below_drewN ?_ _ | refine Below.drew ?_ | refine Below.alloc ?_ ?_ _ | refine Below.setCell ?_ ?_ _)) | go_size)), by (repeat' (first | (with_reducible (first | assumption | exact Blk.alloc_new _ _ _ (by first | rfl | (simp; done) | omega) | apply Blk.drewN | apply Blk.drew | apply Blk.alloc_old | apply Blk.set_same | apply Blk.set_other)) | (show (_ : Nat) ≠ _; first | omega | (simp; done) | (simp; omega)) | ((simp only [List.setIfInBounds_toArray, List.set_cons_succ, List.set_cons_zero]); (with_reducible exact rfl)) | (with_reducible exact rfl) | (show (_ : Array Value) = _; exact rfl))), by (repeat' (first | (with_reducible (first | assumption | exact Blk.alloc_new _ _ _ (by first | rfl | (simp; done) | omega) | apply Blk.drewN | apply Blk.drew | apply Blk.alloc_old | apply Blk.set_same | apply Blk.set_other)) | (show (_ : Nat) ≠ _; first | omega | (simp; done) | (simp; omega)) | ((simp only [List.setIfInBounds_toArray, List.set_cons_succ, List.set_cons_zero]); (with_reducible exact rfl)) | (with_reducible exact rfl) | (show (_ : Array Value) = _; exact rfl))), by (repeat' (first | (with_reducible (first | assumption | exact Blk.alloc_new _ _ _ (by first | rfl | (simp; done) | omega) | apply Blk.drewN | apply Blk.drew | apply Blk.alloc_old | apply Blk.set_same | apply Blk.set_other)) | (show (_ : Nat) ≠ _; first | omega | (simp; done) | (simp; omega)) | ((simp only [List.setIfInBounds_toArray, List.set_cons_succ, List.set_cons_zero]); (with_reducible exact rfl)) | (with_reducible exact rfl) | (show (_ : Array Value) = _; exact rfl))), by (repeat' (first | (with_reducible (first | assumption | exact Blk.alloc_new _ _ _ (by first | rfl | (simp; done) | omega) | apply Blk.drewN | apply Blk.drew | apply Blk.alloc_old | apply Blk.set_same | apply Blk.set_other)) | (show (_ : Nat) ≠ _; first | omega | (simp; done) | (simp; omega)) | ((simp only [List.setIfInBounds_toArray, List.set_cons_succ, List.set_cons_zero]); (with_reducible exact rfl)) | (with_reducible exact rfl) | (show (_ : Array Value) = _; exact rfl)))⟩ ?_
        rintro w11 ⟨g11, C11, X11, S11, V11⟩
        have hz11 := g11.size
        replace cC := C11.cell
        replace fC := C11.frozen
        replace zC := C11.size
        replace cX := X11.cell
        replace fX := X11.frozen
        replace zX := X11.size
        replace cS := S11.cell
        replace fS := S11.frozen
        replace zS := S11.size
        have cV := V11.cell
        have fV := V11.frozen
        have zV := V11.size
        by_cases hl : q < W
        · have hlt : decide (q < W) = true := decide_eq_true hl
          refine wp_forget (fun v => Below wr.heap.size wr v ∧ Blk v (w.heap.size) #[.int .u64 m, .int .u64 d, .int .u64 n] 24 ∧ Blk v (w6.heap.size) #[.bool st.l.has, .int .u64 st.l.D.f.X, .int .u64 (hi (st.l.D.f.Y)), .int .u64 (lo (st.l.D.f.Y)), .int .u64 st.l.D.f.M, .int .u64 st.l.D.t.X, .int .u64 (hi (st.l.D.t.Y)), .int .u64 (lo (st.l.D.t.Y)), .int .u64 st.l.D.t.M, .bool st.l.D.b, .int .u64 st.l.E.f.X, .int .u64 (hi (st.l.E.f.Y)), .int .u64 (lo (st.l.E.f.Y)), .int .u64 st.l.E.f.M, .int .u64 st.l.E.t.X, .int .u64 (hi (st.l.E.t.Y)), .int .u64 (lo (st.l.E.t.Y)), .int .u64 st.l.E.t.M, .bool st.l.E.b, .int .u64 st.l.p, .int .u64 st.l.e, .int .u64 st.l.t] 65 ∧ Blk v (wr.heap.size) #[.int .u64 vq.at_, .int .u64 vq.p] 84 ∧ Blk v (w8.heap.size) #[.int .u64 (dg0 (q)), .int .u64 (dg1 (q)), .int .u64 (dg2 (q)), .int .u64 (dg3 (q))] 31) ⟨by (repeat' (first | (with_reducible (first | exact Below.refl _ _ | assumption | refine below_drewN ?_ _ | refine Below.drew ?_ | refine Below.alloc ?_ ?_ _ | refine Below.setCell ?_ ?_ _)) | go_size)), by (repeat' (first | (with_reducible (first | assumption | exact Blk.alloc_new _ _ _ (by first | rfl | (simp; done) | omega) | apply Blk.drewN | apply Blk.drew | apply Blk.alloc_old | apply Blk.set_same | apply Blk.set_other)) | (show (_ : Nat) ≠ _; first | omega | (simp; done) | (simp; omega)) | ((simp only [List.setIfInBounds_toArray, List.set_cons_succ, List.set_cons_zero]); (with_reducible exact rfl)) | (with_reducible exact rfl) | (show (_ : Array Value) = _; exact rfl))), by (repeat' (first | (with_reducible (first | assumption | exact Blk.alloc_new _ _ _ (by first | rfl | (simp; done) | omega) | apply Blk.drewN | apply Blk.drew | apply Blk.alloc_old | apply Blk.set_same | apply Blk.set_other)) | (show (_ : Nat) ≠ _; first | omega | (simp; done) | (simp; omega)) | ((simp only [List.setIfInBounds_toArray, List.set_cons_succ, List.set_cons_zero]); (with_reducible exact rfl)) | (with_reducible exact rfl) | (show (_ : Array Value) = _; exact rfl))), by (repeat' (first | (with_reducible (first | assumption | exact Blk.alloc_new _ _ _ (by first | rfl | (simp; done) | omega) | apply Blk.drewN | apply Blk.drew | apply Blk.alloc_old | apply Blk.set_same | apply Blk.set_other)) | (show (_ : Nat) ≠ _; first | omega | (simp; done) | (simp; omega)) | ((simp only [List.setIfInBounds_toArray, List.set_cons_succ, List.set_cons_zero]); (with_reducible exact rfl)) | (with_reducible exact rfl) | (show (_ : Array Value) = _; exact rfl))), by (repeat' (first | (with_reducible (first | assumption | exact Blk.alloc_new _ _ _ (by first | rfl | (simp; done) | omega) | apply Blk.drewN | apply Blk.drew | apply Blk.alloc_old | apply Blk.set_same | apply Blk.set_other)) | (show (_ : Nat) ≠ _; first | omega | (simp; done) | (simp; omega)) | ((simp only [List.setIfInBounds_toArray, List.set_cons_succ, List.set_cons_zero]); (with_reducible exact rfl)) | (with_reducible exact rfl) | (show (_ : Array Value) = _; exact rfl)))⟩ ?_
          rintro v12 ⟨gv12, Cv12, Xv12, Sv12, Vv12⟩
          have qC12 := blk_calm Cv12
          have qX12 := blk_calm Xv12
          have qS12 := blk_calm Sv12
          have qV12 := blk_calm Vv12
          refine wp_region_quiet_below (by kernel_rfl) (by kernel_rfl) ?_
          repeat (go_big_quiet_step ((first
              | (go_at_call 39; (with_reducible exact Calls.regrown_of (runits P1 W _ (by omega) HW.out)))
              | (go_at_call 42; (with_reducible exact Calls.regrown_of (rLessC q W true _ iq iW hlt))))))
          refine wpQuiet_nil ?_
          intro _ hw'
          obtain ⟨pq, hw''⟩ := hw'
          subst hw''
          have hb12 := below_regrown v12 pq.d pq.os
          generalize Sort.grow (redrawn v12 pq.d) pq.os = w12 at *
          have C12 : Blk w12 (w.heap.size) #[.int .u64 m, .int .u64 d, .int .u64 n] 24 := Blk.below Cv12 hb12 Cv12.size
          have X12 : Blk w12 (w6.heap.size) #[.bool st.l.has, .int .u64 st.l.D.f.X, .int .u64 (hi (st.l.D.f.Y)), .int .u64 (lo (st.l.D.f.Y)), .int .u64 st.l.D.f.M, .int .u64 st.l.D.t.X, .int .u64 (hi (st.l.D.t.Y)), .int .u64 (lo (st.l.D.t.Y)), .int .u64 st.l.D.t.M, .bool st.l.D.b, .int .u64 st.l.E.f.X, .int .u64 (hi (st.l.E.f.Y)), .int .u64 (lo (st.l.E.f.Y)), .int .u64 st.l.E.f.M, .int .u64 st.l.E.t.X, .int .u64 (hi (st.l.E.t.Y)), .int .u64 (lo (st.l.E.t.Y)), .int .u64 st.l.E.t.M, .bool st.l.E.b, .int .u64 st.l.p, .int .u64 st.l.e, .int .u64 st.l.t] 65 := Blk.below Xv12 hb12 Xv12.size
          have S12 : Blk w12 (wr.heap.size) #[.int .u64 vq.at_, .int .u64 vq.p] 84 := Blk.below Sv12 hb12 Sv12.size
          have V12 : Blk w12 (w8.heap.size) #[.int .u64 (dg0 (q)), .int .u64 (dg1 (q)), .int .u64 (dg2 (q)), .int .u64 (dg3 (q))] 31 := Blk.below Vv12 hb12 Vv12.size
          have g12 : Below wr.heap.size wr w12 := gv12.trans (hb12.mono gv12.size)
          have hz12 : wr.heap.size ≤ w12.heap.size := g12.size
          clear hb12 gv12 Cv12 qC12 Xv12 qX12 Sv12 qS12 Vv12 qV12
          replace cC := C12.cell
          replace fC := C12.frozen
          replace zC := C12.size
          replace cX := X12.cell
          replace fX := X12.frozen
          replace zX := X12.size
          replace cS := S12.cell
          replace fS := S12.frozen
          replace zS := S12.size
          replace cV := V12.cell
          replace fV := V12.frozen
          replace zV := V12.size
          go_wp2_with fail
          refine (hundred20_true _).mono ?_
          rintro e w13 ⟨rfl, hb13⟩
          have g13 : Below wr.heap.size wr w13 := by refine Below.trans ?_ (hb13.mono ?_) <;> first | ((repeat' (first | (with_reducible (first | exact Below.refl _ _ | assumption | refine below_drewN ?_ _ | refine Below.drew ?_ | refine Below.alloc ?_ ?_ _ | refine Below.setCell ?_ ?_ _)) | go_size)); done) | omega | (simp; omega)
          go_wp2
          go_ret
          exact ⟨rfl, g0.trans (g13.mono g0.size)⟩
        · have hlt : decide (q < W) = false := decide_eq_false hl
          have hnot : W ≤ vq.asked m d n x := by rw [Hask.out]; omega
          refine wp_forget (fun v => Below wr.heap.size wr v ∧ Blk v (w.heap.size) #[.int .u64 m, .int .u64 d, .int .u64 n] 24 ∧ Blk v (w6.heap.size) #[.bool st.l.has, .int .u64 st.l.D.f.X, .int .u64 (hi (st.l.D.f.Y)), .int .u64 (lo (st.l.D.f.Y)), .int .u64 st.l.D.f.M, .int .u64 st.l.D.t.X, .int .u64 (hi (st.l.D.t.Y)), .int .u64 (lo (st.l.D.t.Y)), .int .u64 st.l.D.t.M, .bool st.l.D.b, .int .u64 st.l.E.f.X, .int .u64 (hi (st.l.E.f.Y)), .int .u64 (lo (st.l.E.f.Y)), .int .u64 st.l.E.f.M, .int .u64 st.l.E.t.X, .int .u64 (hi (st.l.E.t.Y)), .int .u64 (lo (st.l.E.t.Y)), .int .u64 st.l.E.t.M, .bool st.l.E.b, .int .u64 st.l.p, .int .u64 st.l.e, .int .u64 st.l.t] 65 ∧ Blk v (wr.heap.size) #[.int .u64 vq.at_, .int .u64 vq.p] 84 ∧ Blk v (w8.heap.size) #[.int .u64 (dg0 (q)), .int .u64 (dg1 (q)), .int .u64 (dg2 (q)), .int .u64 (dg3 (q))] 31) ⟨by (repeat' (first | (with_reducible (first | exact Below.refl _ _ | assumption | refine below_drewN ?_ _ | refine Below.drew ?_ | refine Below.alloc ?_ ?_ _ | refine Below.setCell ?_ ?_ _)) | go_size)), by (repeat' (first | (with_reducible (first | assumption | exact Blk.alloc_new _ _ _ (by first | rfl | (simp; done) | omega) | apply Blk.drewN | apply Blk.drew | apply Blk.alloc_old | apply Blk.set_same | apply Blk.set_other)) | (show (_ : Nat) ≠ _; first | omega | (simp; done) | (simp; omega)) | ((simp only [List.setIfInBounds_toArray, List.set_cons_succ, List.set_cons_zero]); (with_reducible exact rfl)) | (with_reducible exact rfl) | (show (_ : Array Value) = _; exact rfl))), by (repeat' (first | (with_reducible (first | assumption | exact Blk.alloc_new _ _ _ (by first | rfl | (simp; done) | omega) | apply Blk.drewN | apply Blk.drew | apply Blk.alloc_old | apply Blk.set_same | apply Blk.set_other)) | (show (_ : Nat) ≠ _; first | omega | (simp; done) | (simp; omega)) | ((simp only [List.setIfInBounds_toArray, List.set_cons_succ, List.set_cons_zero]); (with_reducible exact rfl)) | (with_reducible exact rfl) | (show (_ : Array Value) = _; exact rfl))), by (repeat' (first | (with_reducible (first | assumption | exact Blk.alloc_new _ _ _ (by first | rfl | (simp; done) | omega) | apply Blk.drewN | apply Blk.drew | apply Blk.alloc_old | apply Blk.set_same | apply Blk.set_other)) | (show (_ : Nat) ≠ _; first | omega | (simp; done) | (simp; omega)) | ((simp only [List.setIfInBounds_toArray, List.set_cons_succ, List.set_cons_zero]); (with_reducible exact rfl)) | (with_reducible exact rfl) | (show (_ : Array Value) = _; exact rfl))), by (repeat' (first | (with_reducible (first | assumption | exact Blk.alloc_new _ _ _ (by first | rfl | (simp; done) | omega) | apply Blk.drewN | apply Blk.drew | apply Blk.alloc_old | apply Blk.set_same | apply Blk.set_other)) | (show (_ : Nat) ≠ _; first | omega | (simp; done) | (simp; omega)) | ((simp only [List.setIfInBounds_toArray, List.set_cons_succ, List.set_cons_zero]); (with_reducible exact rfl)) | (with_reducible exact rfl) | (show (_ : Array Value) = _; exact rfl)))⟩ ?_
          rintro v12 ⟨gv12, Cv12, Xv12, Sv12, Vv12⟩
          have qC12 := blk_calm Cv12
          have qX12 := blk_calm Xv12
          have qS12 := blk_calm Sv12
          have qV12 := blk_calm Vv12
          refine wp_region_quiet_below (by kernel_rfl) (by kernel_rfl) ?_
          repeat (go_big_quiet_step ((first
              | (go_at_call 39; (with_reducible exact Calls.regrown_of (runits P1 W _ (by omega) HW.out)))
              | (go_at_call 42; (with_reducible exact Calls.regrown_of (rLessC q W false _ iq iW hlt))))))
          refine wpQuiet_nil ?_
          intro _ hw'
          obtain ⟨pq, hw''⟩ := hw'
          subst hw''
          have hb12 := below_regrown v12 pq.d pq.os
          generalize Sort.grow (redrawn v12 pq.d) pq.os = w12 at *
          have C12 : Blk w12 (w.heap.size) #[.int .u64 m, .int .u64 d, .int .u64 n] 24 := Blk.below Cv12 hb12 Cv12.size
          have X12 : Blk w12 (w6.heap.size) #[.bool st.l.has, .int .u64 st.l.D.f.X, .int .u64 (hi (st.l.D.f.Y)), .int .u64 (lo (st.l.D.f.Y)), .int .u64 st.l.D.f.M, .int .u64 st.l.D.t.X, .int .u64 (hi (st.l.D.t.Y)), .int .u64 (lo (st.l.D.t.Y)), .int .u64 st.l.D.t.M, .bool st.l.D.b, .int .u64 st.l.E.f.X, .int .u64 (hi (st.l.E.f.Y)), .int .u64 (lo (st.l.E.f.Y)), .int .u64 st.l.E.f.M, .int .u64 st.l.E.t.X, .int .u64 (hi (st.l.E.t.Y)), .int .u64 (lo (st.l.E.t.Y)), .int .u64 st.l.E.t.M, .bool st.l.E.b, .int .u64 st.l.p, .int .u64 st.l.e, .int .u64 st.l.t] 65 := Blk.below Xv12 hb12 Xv12.size
          have S12 : Blk w12 (wr.heap.size) #[.int .u64 vq.at_, .int .u64 vq.p] 84 := Blk.below Sv12 hb12 Sv12.size
          have V12 : Blk w12 (w8.heap.size) #[.int .u64 (dg0 (q)), .int .u64 (dg1 (q)), .int .u64 (dg2 (q)), .int .u64 (dg3 (q))] 31 := Blk.below Vv12 hb12 Vv12.size
          have g12 : Below wr.heap.size wr w12 := gv12.trans (hb12.mono gv12.size)
          have hz12 : wr.heap.size ≤ w12.heap.size := g12.size
          clear hb12 gv12 Cv12 qC12 Xv12 qX12 Sv12 qS12 Vv12 qV12
          replace cC := C12.cell
          replace fC := C12.frozen
          replace zC := C12.size
          replace cX := X12.cell
          replace fX := X12.frozen
          replace zX := X12.size
          replace cS := S12.cell
          replace fS := S12.frozen
          replace zS := S12.size
          replace cV := V12.cell
          replace fV := V12.frozen
          replace zV := V12.size
          go_wp2
          go_roundw
          case rel => exact ⟨k + 1, by omega, by go_num, g0.trans (g12.mono g0.size), by (repeat' (first | (with_reducible (first | assumption | exact Blk.alloc_new _ _ _ (by first | rfl | (simp; done) | omega) | apply Blk.drewN | apply Blk.drew | apply Blk.alloc_old | apply Blk.set_same | apply Blk.set_other)) | (show (_ : Nat) ≠ _; first | omega | (simp; done) | (simp; omega)) | ((simp only [List.setIfInBounds_toArray, List.set_cons_succ, List.set_cons_zero]); (with_reducible exact rfl)) | (with_reducible exact rfl) | (show (_ : Array Value) = _; exact rfl))), by (repeat' (first | (with_reducible (first | assumption | exact Blk.alloc_new _ _ _ (by first | rfl | (simp; done) | omega) | apply Blk.drewN | apply Blk.drew | apply Blk.alloc_old | apply Blk.set_same | apply Blk.set_other)) | (show (_ : Nat) ≠ _; first | omega | (simp; done) | (simp; omega)) | ((simp only [List.setIfInBounds_toArray, List.set_cons_succ, List.set_cons_zero]); (with_reducible exact rfl)) | (with_reducible exact rfl) | (show (_ : Array Value) = _; exact rfl))), H0.below g12, hide (notyet hv Hno.out hnot)⟩
          case measure => simp [intOf]; omega
    · exfalso
      obtain ⟨v, hv, hl⟩ := hW1.out
      obtain ⟨j, hj, e⟩ := List.mem_iff_getElem.1 hv
      have := Hno.out j v (by omega) (by rw [List.getElem?_eq_getElem hj, e])
      omega
theorem RealSince_walk (m : Int) (hm : 0 ≤ m ∧ m ≤ 18446744073709551615) (d : Int) (hd : 0 ≤ d ∧ d ≤ 18446744073709551615) (n : Int) (hn : 0 ≤ n ∧ n ≤ 18446744073709551615) (a : Option Addr) (len cap : Nat) (hd_ : Int) (hh : -9223372036854775808 ≤ hd_ ∧ hd_ ≤ 9223372036854775807) (w : World) (h : Rows_call20 w a len ∧ len ≤ maxLen) :
    Calls Try.prog 10 #[.agg #[.int .u64 m, .int .u64 d, .int .u64 n], .slice a len cap, .int .i64 hd_] w fun e w' => e = .returned (.bool true) ∧ Below w.heap.size w w' := by
  by_cases h1 : 60 < len
  · exact RS_outa m d n hd_ a len cap w hm hd hn h1
  by_cases h2 : hd_ < 1
  · exact RS_outb m d n hd_ a len cap w hm hd hn (by omega) h2
  by_cases h3 : 16384 < hd_
  · exact RS_outc m d n hd_ a len cap w hm hd hn (by omega) (by omega) h3
  by_cases hk : kd m d n = 0
  · exact RS_outd m d n hd_ a len cap w hm hd hn (by omega) (by omega) (by omega) (by simp [hk])
  have hc := CIn.of hm.1 hd.1 hn.1 hk
  have hk' : (kd m d n != 0) = true := by simp [hk]
  obtain ⟨L, hL, hC, hnil, ok⟩ := calls_of h.1
  have hSI := story_SI (m := m) (d := d) (n := n) hc L (by omega)
  obtain ⟨st0, hst0⟩ : ∃ s, storyR m d n (⟨0, 0, 0, 0⟩ :: L) = s := ⟨_, rfl⟩
  rw [hst0] at hSI
  have hst : storyR m d n ((⟨0, 0, 0, 0⟩ :: L) ++ [⟨2, 0, 0, hd_⟩]) = ⟨st0.l.headed hd_, st0.ws, st0.now + 0⟩ := by rw [storyR_snoc, hst0]; rfl
  obtain ⟨e1, e2, e3, e4⟩ := headed_same st0.l hd_
  obtain ⟨g1, g2, g3, g4, g6, g7, g8⟩ := hSI
  have hp : st0.l.p ≤ 1048576 := by omega
  have ht : (st0.l.headed hd_).t = st0.l.D.reach ((st0.l.p + hd_) * 65536) := by
    unfold LF.headed; rw [if_pos (by omega)]
    show st0.l.D.reach _ = _
    rw [IntWalk.u64_in _ ⟨by omega, by omega⟩]
  obtain ⟨q1, q2⟩ := reach_since hc g3 (P := st0.l.p) (W := (st0.l.p + hd_) * 65536) g7.1 (fun v hv => ⟨(g6 v hv).1, (g6 v hv).2.1.2⟩) (by omega)
  have q3 := (RN.reach_rng (RN.small_ok g2.1) ((st0.l.p + hd_) * 65536)).2
  refine RS_main m d n hd_ _ _ _ a len cap L _ w hm hd hn (by omega) (by omega) hk' hc hL (by omega) hC hnil ok hst ?_ rfl rfl ?_ rfl ?_ ?_ ?_
  · show 0 ≤ (LF.headed _ hd_).p ∧ (LF.headed _ hd_).p ≤ _
    rw [e4]; omega
  · show 1 ≤ (LF.headed _ hd_).t ∧ (LF.headed _ hd_).t ≤ _
    rw [ht]; exact ⟨q1, q3⟩
  · intro v hv
    have := g6 v hv
    exact ⟨⟨this.2.1.1, by omega⟩, this.2.2.1, by omega⟩
  · show ∃ v ∈ st0.ws, v.asked m d n ((LF.headed _ hd_).t - 1) < ((LF.headed _ hd_).p + hd_) * 65536
    rw [ht, e4]; exact q2
  · show st0.ws.length ≤ 1000
    have := story_len m d n (⟨0, 0, 0, 0⟩ :: L); rw [hst0] at this; simp at this; omega
namespace realSinceDone
theorem own : ownKnob Try.prog.godebug = none := by kernel_rfl
theorem laidOut : laidOutB Try.prog = true := by kernel_rfl
set_option maxRecDepth 100000 in
theorem lifted (os : Os) (started : os.Started) (H : Type) (enc : TypeId × Value → H) :
    ReturnsInHanded {} Try.checked os 10 .any (Rows.realSinceSpec.pre6 enc Try.prog Try.f10 Rows.realSinceRow.domain false) (Rows.realSinceSpec.post enc Try.prog Try.f10 false true false false) := by
  refine returnsInHanded_of_change (C := Try.checked) own started (by kernel_rfl) Try.func10
    (ChangeSpec.witness6 (enc := enc) (C := Try.checked) false ⟨#[], #[.agg #[.int .u64 0, .int .u64 0, .int .u64 0], .slice none 0 0, .int .i64 0], []⟩ 8 (by kernel_rfl) (by kernel_rfl) (by kernel_rfl) (by kernel_rfl)) ?_
  intro W base args ds gs before hval0 hW hcnd _
  have hval : ∀ (j : Nat) t v, Try.f10.params[j]? = some t → args[j]? = some v → Value.okWide Try.prog W .any base t v := hval0
  have hW' := hW
  obtain ⟨p, q, hA0, hV, rfl, hfz, hnd⟩ := hW
  have hA : DataW.TrodAll enc Try.prog W 0 (fun _ => true) true Try.f10.params.toList args.toList ds p := hA0
  rw [Try.params10] at hA hval
  obtain ⟨v0, vs0, d0, ds0, p0, q0, hargs, rfl, rfl, h0, r0⟩ := trodAll_cons hA
  obtain ⟨v1, vs1, d1, ds1, p1, q1, rfl, rfl, rfl, h1, r1⟩ := trodAll_cons r0
  obtain ⟨v2, vs2, d2, ds2, p2, q2, rfl, rfl, rfl, h2, r2⟩ := trodAll_cons r1
  obtain ⟨rfl, rfl, rfl⟩ := trodAll_nil r2
  obtain rfl : args = #[v0, v1, v2] := by cases args; simp_all
  obtain ⟨rfl, rfl⟩ := trodVars_none hV
  have k0 := h0
  have lt0 : ∀ x ∈ p0, x.block < W.heap.size := by obtain ⟨m, hm⟩ := k0; exact DataW.trod_lt m _ _ _ hm
  obtain ⟨x0_0, x0_1, x0_2, y0_0, y0_1, y0_2, m0, rfl, hd0, hp0, q0_0, q0_1, q0_2⟩ := Joins.open_agg3 Try.underlying24 (by kernel_rfl) (show Try.prog.cellsOf 24 = 3 by kernel_rfl) (hval 0 24 v0 rfl rfl) h0
  obtain ⟨a0_0, e0_0, _, wf0_0⟩ := DataW.trod_int Try.underlying22 q0_0
  simp at e0_0
  subst e0_0
  have b0_0 := bounds_u64 wf0_0
  obtain ⟨a0_1, e0_1, _, wf0_1⟩ := DataW.trod_int Try.underlying22 q0_1
  simp at e0_1
  subst e0_1
  have b0_1 := bounds_u64 wf0_1
  obtain ⟨a0_2, e0_2, _, wf0_2⟩ := DataW.trod_int Try.underlying22 q0_2
  simp at e0_2
  subst e0_2
  have b0_2 := bounds_u64 wf0_2
  obtain ⟨s1, len1, cap1, rfl⟩ := okWide_slice Try.underlying78 (hval 1 78 v1 rfl rfl)
  have k1 := h1
  have lt1 : ∀ x ∈ p1, x.block < W.heap.size := by obtain ⟨m, hm⟩ := k1; exact DataW.trod_lt m _ _ _ hm
  have w1 : Rows_call20 W s1 len1 ∧ len1 ≤ maxLen := by obtain ⟨fuel, hf⟩ := h1; exact open_call20s (by simpa [Value.cells] using hf)
  obtain ⟨a2, rfl, rfl, rfl, wf2⟩ := open_int Try.underlying3 (hval 2 3 v2 rfl rfl) h2
  have b2 := bounds_i64 wf2
  clear hA0 hval0
  refine (RealSince_walk a0_0 b0_0 a0_1 b0_1 a0_2 b0_2 s1 len1 cap1 a2 b2 W w1).mono fun e W' ⟨he, bel⟩ => ?_
  subst he
  exact ⟨_, rfl, _, _, _, [], _, [], hW', trodAll_mk1 (shut_bool Try.underlying4 _), (trodAll_cons_mk (Below.trod laidOut (by kernel_rfl) (of_decide_eq_true (by kernel_rfl)) k0 bel lt0) (trodAll_cons_mk (Below.trod laidOut (by kernel_rfl) (of_decide_eq_true (by kernel_rfl)) k1 bel lt1) (trodAll_cons_mk (shut_int Try.underlying3 wf2) trodAll_mk0))), rfl, bel.frame _, fun h => by cases h⟩
theorem over : Rows.realSinceRow.holds Try.pinned (OpenSpec.ofChange Rows.realSinceSpec) :=
  OpenClaim.holds_of_wide 10 Try.f10 rfl rfl rfl rfl rfl rfl rfl ⟨rfl, rfl, rfl, rfl, rfl⟩ rfl rfl rfl rfl rfl (by kernel_rfl) Try.func10 (by kernel_rfl)
    (of_decide_eq_true (by kernel_rfl)) (by unfold Func.isWrapper; first | (rw [if_pos (by decide +kernel)]; kernel_rfl) | (rw [if_neg (by decide +kernel)]; exact ⟨rfl, rfl⟩))
    (fun os started H enc _ => lifted os started H enc)
end realSinceDone
theorem RealSince_holds : Rows.RealSinceSaid := realSinceDone.over

end Go.Proofs.Ytaaoadbcgnedkaa
