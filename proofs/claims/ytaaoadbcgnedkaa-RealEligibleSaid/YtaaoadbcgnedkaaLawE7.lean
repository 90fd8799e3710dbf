/-
  The statement RealEligible: a leaf is eligible no later than at its deadline. Conditions: none.
-/
import Derived.Test.YtaaoadbcgnedkaaRealA
import Derived.Test.YtaaoadbcgnedkaaRealT
import Derived.Test.YtaaoadbcgnedkaaFrame
namespace Go.Proofs.Ytaaoadbcgnedkaa
open Go.ChangeShapes Go.WideShapes Go.ChangeAt Go.RowKit
open Go.Sort
set_option linter.unusedVariables false
set_option linter.unusedSimpArgs false
theorem call20list4 {α : Type} {l : List α} (h : l.length = 4) : ∃ a0 a1 a2 a3, l = [a0, a1, a2, a3] := by
  match l, h with
  | [a0, a1, a2, a3], _ => exact ⟨a0, a1, a2, a3, rfl⟩
theorem cells_call20 {H : Type} {w : World} {base : Nat} {spare : Nat → Bool} {held : Bool} {enc : TypeId × Value → H} {fuel : Nat} {c0 c1 c2 c3 : Value} {x : DataW H × List MemPlace} (hf : DataW.trod enc Try.prog w base spare held fuel 67 [c0, c1, c2, c3] = some x) :
    ∃ (x0 : Int) (x1 : Int) (x2 : Int) (x3 : Int), [c0, c1, c2, c3] = [.int .i64 x0, .int .u64 x1, .int .i64 x2, .int .i64 x3] ∧ (-9223372036854775808 ≤ x0 ∧ x0 ≤ 9223372036854775807) ∧ (0 ≤ x1 ∧ x1 ≤ 18446744073709551615) ∧ (-9223372036854775808 ≤ x2 ∧ x2 ≤ 9223372036854775807) ∧ (-9223372036854775808 ≤ x3 ∧ x3 ≤ 9223372036854775807) := by
  have k0 : Try.prog.cellsOf 67 = 4 := by kernel_rfl
  have k1 : Try.prog.cellsOf 3 = 1 := by kernel_rfl
  have k2 : Try.prog.cellsOf 22 = 1 := by kernel_rfl
  obtain ⟨ys0, m0, _, _, _, hl0, hx0⟩ := DataW.trod_struct Try.underlying67 hf
  obtain ⟨y0_0, y0_1, y0_2, y0_3, rfl⟩ := call20list4 hl0
  have q0_0 := hx0 0 _ rfl
  have q0_1 := hx0 1 _ rfl
  have q0_2 := hx0 2 _ rfl
  have q0_3 := hx0 3 _ rfl
  simp [k1, k2] at q0_0 q0_1 q0_2 q0_3
  obtain ⟨x0, e0, _, w0⟩ := DataW.trod_int Try.underlying3 q0_0
  obtain ⟨x1, e1, _, w1⟩ := DataW.trod_int Try.underlying22 q0_1
  obtain ⟨x2, e2, _, w2⟩ := DataW.trod_int Try.underlying3 q0_2
  obtain ⟨x3, e3, _, w3⟩ := DataW.trod_int Try.underlying3 q0_3
  simp at e0 e1 e2 e3
  subst e0 e1 e2 e3
  exact ⟨x0, x1, x2, x3, rfl, bounds_i64 w0, bounds_u64 w1, bounds_i64 w2, bounds_i64 w3⟩
set_option maxRecDepth 100000 in
theorem open_call20 {H : Type} {w : World} {base : Nat} {spare : Nat → Bool} {held : Bool} {enc : TypeId × Value → H} {r : Reach} {b0 : Nat} {v : Value} {d : DataW H} {p : List MemPlace} (hv : Value.okWide Try.prog w r b0 67 v) (h : DataW.Trod enc Try.prog w base spare held 67 v d p) :
    ∃ (x0 : Int) (x1 : Int) (x2 : Int) (x3 : Int), v = .agg #[.int .i64 x0, .int .u64 x1, .int .i64 x2, .int .i64 x3] ∧ (-9223372036854775808 ≤ x0 ∧ x0 ≤ 9223372036854775807) ∧ (0 ≤ x1 ∧ x1 ≤ 18446744073709551615) ∧ (-9223372036854775808 ≤ x2 ∧ x2 ≤ 9223372036854775807) ∧ (-9223372036854775808 ≤ x3 ∧ x3 ≤ 9223372036854775807) := by
  obtain ⟨cs, rfl, hsz⟩ := okWide_struct Try.underlying67 hv
  obtain ⟨l⟩ := cs
  obtain ⟨c0, c1, c2, c3, rfl⟩ := call20list4 (l := l) (hsz.trans (show Try.prog.cellsOf 67 = 4 by kernel_rfl))
  obtain ⟨fuel, hf⟩ := h
  obtain ⟨x0, x1, x2, x3, e, bs⟩ := cells_call20 (x := (d, p)) (show DataW.trod enc Try.prog w base spare held fuel 67 [c0, c1, c2, c3] = some (d, p) by simpa [Value.cells] using hf)
  simp at e
  obtain ⟨rfl, rfl, rfl, rfl⟩ := e
  exact ⟨x0, x1, x2, x3, rfl, bs⟩
/-- Structs that came in: each one's cells. -/
def Rows_call20 (w : World) (a : Option Addr) (len : Nat) : Prop :=
  len = 0 ∨ ∃ b off, a = some ⟨b, off, none⟩ ∧ b < w.heap.size ∧ ∀ i, i < len → ∃ (x0 : Int) (x1 : Int) (x2 : Int) (x3 : Int), (-9223372036854775808 ≤ x0 ∧ x0 ≤ 9223372036854775807) ∧ (0 ≤ x1 ∧ x1 ≤ 18446744073709551615) ∧ (-9223372036854775808 ≤ x2 ∧ x2 ≤ 9223372036854775807) ∧ (-9223372036854775808 ≤ x3 ∧ x3 ≤ 9223372036854775807) ∧ w.cell? ⟨b, off + i * 4, none⟩ = some (.int .i64 x0) ∧ w.cell? ⟨b, off + i * 4 + 1, none⟩ = some (.int .u64 x1) ∧ w.cell? ⟨b, off + i * 4 + 2, none⟩ = some (.int .i64 x2) ∧ w.cell? ⟨b, off + i * 4 + 3, none⟩ = some (.int .i64 x3)
theorem call20_cell_lt {w : World} {b o : Nat} {v : Value} (h : w.cell? ⟨b, o, none⟩ = some v) : b < w.heap.size := by
  by_cases hb : b < w.heap.size
  · exact hb
  · simp [World.cell?, Array.getElem?_eq_none (show w.heap.size ≤ b by omega)] at h
theorem call20_cell_add {w : World} {b off : Nat} {n j : Nat} {v : Option Value} (h : w.cell? (((⟨b, off, none⟩ : Addr).add n).add j) = v) : w.cell? ⟨b, off + n + j, none⟩ = v := by
  rw [Go.Deep.add_add] at h
  unfold Addr.add at h
  by_cases h0 : n + j = 0
  · have e1 : n = 0 := by omega
    have e2 : j = 0 := by omega
    subst e1 e2; simpa using h
  · rw [if_neg h0] at h
    rw [show off + n + j = off + (n + j) by omega]; exact h
theorem open_call20s {H : Type} {w : World} {base : Nat} {spare : Nat → Bool} {held : Bool} {enc : TypeId × Value → H} {s : Option Addr} {len cap fuel : Nat} {x : DataW H × List MemPlace} (h : DataW.trod enc Try.prog w base spare held fuel 78 [.slice s len cap] = some x) : Rows_call20 w s len ∧ len ≤ maxLen := by
  rcases Go.Deep.open_slice Try.underlying78 h with ⟨hcs, _⟩ | ⟨a, len', cap', m, n, D, Pl, hcs, hb, hl, hm, hmm, hx, hi⟩
  · simp at hcs
    obtain ⟨rfl, rfl, rfl⟩ := hcs
    exact ⟨.inl rfl, by unfold maxLen; omega⟩
  · simp at hcs
    obtain ⟨rfl, rfl, rfl⟩ := hcs
    refine ⟨?_, by omega⟩
    by_cases h0 : len = 0
    · exact .inl h0
    right
    have hlm : len ≤ m := by rw [hmm]; split <;> omega
    have kN : Try.prog.cellsOf 67 = 4 := by kernel_rfl
    rw [kN] at hi
    have hall : ∀ i, i < len → ∃ (x0 : Int) (x1 : Int) (x2 : Int) (x3 : Int), (-9223372036854775808 ≤ x0 ∧ x0 ≤ 9223372036854775807) ∧ (0 ≤ x1 ∧ x1 ≤ 18446744073709551615) ∧ (-9223372036854775808 ≤ x2 ∧ x2 ≤ 9223372036854775807) ∧ (-9223372036854775808 ≤ x3 ∧ x3 ≤ 9223372036854775807) ∧ ∀ j, j < 4 → w.cell? ((a.add (i * 4)).add j) = ([.int .i64 x0, .int .u64 x1, .int .i64 x2, .int .i64 x3] : List Value)[j]? := by
      intro i hil
      obtain ⟨cs', hc, ht⟩ := hi i (by omega)
      obtain ⟨_, hlen, hat⟩ := World.cells?_some hc
      obtain ⟨c0, c1, c2, c3, rfl⟩ := call20list4 hlen
      obtain ⟨x0, x1, x2, x3, e, n0, n1, n2, n3⟩ := cells_call20 ht
      rw [e] at hat
      exact ⟨x0, x1, x2, x3, n0, n1, n2, n3, hat⟩
    obtain ⟨b, off, spot⟩ := a
    obtain ⟨_, _, _, _, _, _, _, _, hc0⟩ := hall 0 (by omega)
    have hspot : spot = none := by
      have := hc0 0 (by omega)
      simpa [Addr.add] using World.cell?_spot (by simpa [Addr.add] using this)
    subst hspot
    refine ⟨b, off, rfl, call20_cell_lt (by have := call20_cell_add (hc0 0 (by omega)); simpa using this), fun i hil => ?_⟩
    obtain ⟨x0, x1, x2, x3, n0, n1, n2, n3, hc⟩ := hall i hil
    exact ⟨x0, x1, x2, x3, n0, n1, n2, n3, call20_cell_add (hc 0 (by omega)), call20_cell_add (hc 1 (by omega)), call20_cell_add (hc 2 (by omega)), call20_cell_add (hc 3 (by omega))⟩
theorem headed_small {l : LF} (hD : l.D.small) (h : Int) : (l.headed h).t ≤ 9223372036854775808 := by
  unfold LF.headed
  split
  · exact (RN.reach_rng (RN.small_ok hD) _).2
  · exact Int.le_refl _
theorem HoldC.own {w : World} {base n : Nat} {v : Value} {L : List CL} (h : HoldC w base v L) (hn : n = L.length) : w.ownsRow base 67 4 v n (flatc L) := by subst hn; exact h
theorem HoldC.below {w w' : World} {base : Nat} {v : Value} {ws : List CL} (h : HoldC w base v ws) (hb : Below w.heap.size w w') : HoldC w' base v ws :=
  World.ownsRow.kept (row := none) h ⟨hb.os, hb.tape, hb.output, hb.size, fun k hk _ => hb.block k hk⟩ (by
    cases ho : v.ownBlock with
    | none => exact .inl rfl
    | some k => right; simp)
theorem calls_news' {w : World} {a : Option Addr} {L : List CL} (h : CallsAt w a L) {A : Addr} (hA : a = some A) (j : Nat) (u : Value) (hj : (flatc L)[j]? = some u) : w.cell? (A.add j) = some u := by
  rcases h with h | ⟨b, off, e, _, hc⟩
  · subst h; simp [flatc] at hj
  · rw [hA] at e; cases e; exact calls_news hc j u hj
theorem calls_of {w : World} {a : Option Addr} {len : Nat} (h : Rows_call20 w a len) : ∃ L : List CL, L.length = len ∧ CallsAt w a L ∧ (a = none → len = 0) ∧ ∀ c ∈ L, c.ok := by
  rcases h with h | ⟨b, off, rfl, hB, hc⟩
  · subst h; exact ⟨[], rfl, .inl rfl, fun _ => rfl, by simp⟩
  · have key : ∀ n, n ≤ len → ∃ L : List CL, L.length = n ∧ (∀ i c, L[i]? = some c → w.cell? ⟨b, off + i * 4, none⟩ = some (.int .i64 c.k) ∧ w.cell? ⟨b, off + i * 4 + 1, none⟩ = some (.int .u64 c.x) ∧ w.cell? ⟨b, off + i * 4 + 2, none⟩ = some (.int .i64 c.s) ∧ w.cell? ⟨b, off + i * 4 + 3, none⟩ = some (.int .i64 c.h)) ∧ ∀ c ∈ L, c.ok := by
      intro n
      induction n with
      | zero => intro _; exact ⟨[], rfl, by simp, by simp⟩
      | succ n ih =>
        intro hn
        obtain ⟨L, hl, h1, h2⟩ := ih (by omega)
        obtain ⟨x0, x1, x2, x3, h0, h1', h2', h3', e0, e1, e2, e3⟩ := hc n (by omega)
        refine ⟨L ++ [⟨x0, x1, x2, x3⟩], by simp [hl], fun i c hi => ?_, fun c hcm => ?_⟩
        · by_cases hin : i < L.length
          · rw [List.getElem?_append_left hin] at hi; exact h1 i c hi
          · have hi' : i < (L ++ [(⟨x0, x1, x2, x3⟩ : CL)]).length := (List.getElem?_eq_some_iff.1 hi).1
            simp at hi'
            obtain rfl : i = n := by omega
            rw [List.getElem?_append_right (by omega), hl] at hi
            simp at hi; subst hi
            exact ⟨e0, e1, e2, e3⟩
        · rcases List.mem_append.1 hcm with hcm | hcm
          · exact h2 c hcm
          · simp at hcm; subst hcm; exact ⟨h0, h1', h2', h3'⟩
    obtain ⟨L, hl, h1, h2⟩ := key len (Nat.le_refl _)
    exact ⟨L, hl, .inr ⟨b, off, rfl, hB, h1⟩, fun h => by simp at h, h2⟩
set_option maxHeartbeats 4000000 in
theorem RE_outa (m d n hd_ : Int) (a : Option Addr) (len cap : Nat) (w : World) (hm : 0 ≤ m ∧ m ≤ 18446744073709551615) (hd : 0 ≤ d ∧ d ≤ 18446744073709551615) (hn : 0 ≤ n ∧ n ≤ 18446744073709551615) (h1 : 60 < len) :
    Calls Try.prog 9 #[.agg #[.int .u64 m, .int .u64 d, .int .u64 n], .slice a len cap, .int .i64 hd_] w fun e w' => e = .returned (.bool true) ∧ Below w.heap.size w w' := by
  have d1 : decide ((60 : Int) < (len : Int)) = true := decide_eq_true (by omega)
  go_enter Try.func9, Try.ntmps9
  go_wp2_with fail
  refine (hundred20_true _).mono ?_
  rintro e w1 ⟨rfl, hb1⟩
  have g1 : Below w.heap.size w w1 := by refine Below.trans ?_ (hb1.mono ?_) <;> (repeat' (first | (with_reducible (first | exact Below.refl _ _ | assumption | refine below_drewN ?_ _ | refine Below.drew ?_ | refine Below.alloc ?_ ?_ _ | refine Below.setCell ?_ ?_ _)) | go_size))
  have hz1 := hb1.size
  (try simp at hz1)
  clear hb1
  go_wp2
  go_ret
  exact ⟨rfl, by (repeat' (first | (with_reducible (first | exact Below.refl _ _ | assumption | refine below_drewN ?_ _ | refine Below.drew ?_ | refine Below.alloc ?_ ?_ _ | refine Below.setCell ?_ ?_ _)) | go_size))⟩
set_option maxHeartbeats 4000000 in
theorem RE_outb (m d n hd_ : Int) (a : Option Addr) (len cap : Nat) (w : World) (hm : 0 ≤ m ∧ m ≤ 18446744073709551615) (hd : 0 ≤ d ∧ d ≤ 18446744073709551615) (hn : 0 ≤ n ∧ n ≤ 18446744073709551615) (h1 : len ≤ 60) (h2 : 16384 < hd_) :
    Calls Try.prog 9 #[.agg #[.int .u64 m, .int .u64 d, .int .u64 n], .slice a len cap, .int .i64 hd_] w fun e w' => e = .returned (.bool true) ∧ Below w.heap.size w w' := by
  have d1 : decide ((60 : Int) < (len : Int)) = false := decide_eq_false (by omega)
  have d2 : decide (16384 < hd_) = true := decide_eq_true (by omega)
  go_enter Try.func9, Try.ntmps9
  go_wp2_with fail
  refine (hundred20_true _).mono ?_
  rintro e w1 ⟨rfl, hb1⟩
  have g1 : Below w.heap.size w w1 := by refine Below.trans ?_ (hb1.mono ?_) <;> (repeat' (first | (with_reducible (first | exact Below.refl _ _ | assumption | refine below_drewN ?_ _ | refine Below.drew ?_ | refine Below.alloc ?_ ?_ _ | refine Below.setCell ?_ ?_ _)) | go_size))
  have hz1 := hb1.size
  (try simp at hz1)
  clear hb1
  go_wp2
  go_ret
  exact ⟨rfl, by (repeat' (first | (with_reducible (first | exact Below.refl _ _ | assumption | refine below_drewN ?_ _ | refine Below.drew ?_ | refine Below.alloc ?_ ?_ _ | refine Below.setCell ?_ ?_ _)) | go_size))⟩
set_option maxHeartbeats 4000000 in
theorem RE_outc (m d n hd_ : Int) (a : Option Addr) (len cap : Nat) (w : World) (hm : 0 ≤ m ∧ m ≤ 18446744073709551615) (hd : 0 ≤ d ∧ d ≤ 18446744073709551615) (hn : 0 ≤ n ∧ n ≤ 18446744073709551615) (h1 : len ≤ 60) (h2 : hd_ ≤ 16384) (hk : (kd m d n != 0) = false) :
    Calls Try.prog 9 #[.agg #[.int .u64 m, .int .u64 d, .int .u64 n], .slice a len cap, .int .i64 hd_] w fun e w' => e = .returned (.bool true) ∧ Below w.heap.size w w' := by
  have d1 : decide ((60 : Int) < (len : Int)) = false := decide_eq_false (by omega)
  have d2 : decide (16384 < hd_) = false := decide_eq_false (by omega)
  have HK := hide hk; clear hk
  go_enter Try.func9, Try.ntmps9
  go_wp2_with (first | (go_at_call 19; refine (crightC m d n _ ⟨hm.1, hd.1, hn.1⟩ false HK.out).mono ?_; rintro e w' ⟨rfl, hb'⟩; have hbx : Below w.heap.size w w' := (by refine Below.trans ?_ (Below.mono hb' ?_) <;> (repeat' (first | (with_reducible (first | exact Below.refl _ _ | assumption | refine below_drewN ?_ _ | refine Below.drew ?_ | refine Below.alloc ?_ ?_ _ | refine Below.setCell ?_ ?_ _)) | go_size))); have hbs := hb'.size; (try simp at hbs); have hkC : Blk w' (w.heap.size) #[.int .u64 m, .int .u64 d, .int .u64 n] 24 := Blk.below (by (repeat' (first | (with_reducible (first | assumption | exact Blk.alloc_new _ _ _ (by first | rfl | (simp; done) | omega) | apply Blk.drewN | apply Blk.drew | apply Blk.alloc_old | apply Blk.set_same | apply Blk.set_other)) | (show (_ : Nat) ≠ _; first | omega | (simp; done) | (simp; omega)) | ((simp only [List.setIfInBounds_toArray, List.set_cons_succ, List.set_cons_zero]); (with_reducible exact rfl)) | (with_reducible exact rfl) | (show (_ : Array Value) = _; exact rfl)))) hb' (by first | (simp; done) | omega | (simp; omega)); have cC := hkC.cell; have fC := hkC.frozen; have zC := hkC.size; skip; clear hb'))
  refine (hundred20_true _).mono ?_
  rintro e w1 ⟨rfl, hb1⟩
  have C1 : Blk w1 (w.heap.size) #[.int .u64 m, .int .u64 d, .int .u64 n] 24 := Blk.below (by (repeat' (first | (with_reducible (first | assumption | exact Blk.alloc_new _ _ _ (by first | rfl | (simp; done) | omega) | apply Blk.drewN | apply Blk.drew | apply Blk.alloc_old | apply Blk.set_same | apply Blk.set_other)) | (show (_ : Nat) ≠ _; first | omega | (simp; done) | (simp; omega)) | ((simp only [List.setIfInBounds_toArray, List.set_cons_succ, List.set_cons_zero]); (with_reducible exact rfl)) | (with_reducible exact rfl) | (show (_ : Array Value) = _; exact rfl)))) hb1 (by first | (simp; done) | omega | (simp; omega))
  have g1 : Below w.heap.size w w1 := by refine Below.trans ?_ (hb1.mono ?_) <;> (repeat' (first | (with_reducible (first | exact Below.refl _ _ | assumption | refine below_drewN ?_ _ | refine Below.drew ?_ | refine Below.alloc ?_ ?_ _ | refine Below.setCell ?_ ?_ _)) | go_size))
  have hz1 := hb1.size
  (try simp at hz1)
  clear hb1
  replace cC := C1.cell
  replace fC := C1.frozen
  replace zC := C1.size
  go_wp2
  go_ret
  exact ⟨rfl, by (repeat' (first | (with_reducible (first | exact Below.refl _ _ | assumption | refine below_drewN ?_ _ | refine Below.drew ?_ | refine Below.alloc ?_ ?_ _ | refine Below.setCell ?_ ?_ _)) | go_size))⟩
set_option maxRecDepth 100000 in
set_option maxHeartbeats 8000000 in
theorem RE_lo (m d n hd_ : Int) (a : Option Addr) (len cap : Nat) (L : List CL) (st : ST) (w : World) (hm : 0 ≤ m ∧ m ≤ 18446744073709551615) (hd : 0 ≤ d ∧ d ≤ 18446744073709551615) (hn : 0 ≤ n ∧ n ≤ 18446744073709551615) (h2 : hd_ ≤ 16384) (hh : -9223372036854775808 ≤ hd_) (hk : (kd m d n != 0) = true) (hL : L.length = len) (h1 : len ≤ 60) (hc : CallsAt w a L) (hnil0 : a = none → len = 0) (ok : ∀ c ∈ L, c.ok) (hS : storyR m d n ((⟨0, 0, 0, 0⟩ :: L) ++ [⟨2, 0, 0, hd_⟩]) = st) (h3 : hd_ < 1) (p1 : (st.l.e == 9223372036854775808) = true) (p2 : (st.l.t == 9223372036854775808) = true) :
    Calls Try.prog 9 #[.agg #[.int .u64 m, .int .u64 d, .int .u64 n], .slice a len cap, .int .i64 hd_] w fun e w' => e = .returned (.bool true) ∧ Below w.heap.size w w' := by
  subst hL
  have hcap : True := trivial
  have Hc := hide hc; have hnil := hide hnil0; have HS := hide hS; have HK := hide hk
  have Ok := hide (show ∀ c ∈ (⟨0, 0, 0, 0⟩ :: L) ++ [(⟨2, 0, 0, hd_⟩ : CL)], c.ok from by
    intro c hcm
    rcases List.mem_append.1 hcm with hcm | hcm
    · rcases List.mem_cons.1 hcm with rfl | hcm
      · unfold CL.ok; simp
      · exact ok c hcm
    · simp at hcm; subst hcm; unfold CL.ok; simp only []; omega)
  clear hc hnil0 hS hk ok
  obtain ⟨io, hio, hz0, hz1, hz2⟩ := info_parts info_call
  have Jio := hide hio; have Jz0 := hide hz0; have Jz1 := hide hz1; have Jz2 := hide hz2
  clear hio hz0 hz1 hz2
  have d1 : decide ((60 : Int) < (L.length : Int)) = false := decide_eq_false (by omega)
  have d2 : decide (16384 < hd_) = false := decide_eq_false (by omega)
  have d3 : decide (hd_ < 1) = true := decide_eq_true h3
  go_enter Try.func9, Try.ntmps9
  go_wp2_with fail
  refine (crightC m d n _ ⟨hm.1, hd.1, hn.1⟩ true HK.out).mono ?_
  rintro e w1 ⟨rfl, hb1⟩
  have C1 : Blk w1 (w.heap.size) #[.int .u64 m, .int .u64 d, .int .u64 n] 24 := Blk.below (by (repeat' (first | (with_reducible (first | assumption | exact Blk.alloc_new _ _ _ (by first | rfl | (simp; done) | omega) | apply Blk.drewN | apply Blk.drew | apply Blk.alloc_old | apply Blk.set_same | apply Blk.set_other)) | (show (_ : Nat) ≠ _; first | omega | (simp; done) | (simp; omega)) | ((simp only [List.setIfInBounds_toArray, List.set_cons_succ, List.set_cons_zero]); (with_reducible exact rfl)) | (with_reducible exact rfl) | (show (_ : Array Value) = _; exact rfl)))) hb1 (by first | (simp; done) | omega | (simp; omega))
  have g1 : Below w.heap.size w w1 := by refine Below.trans ?_ (hb1.mono ?_) <;> (repeat' (first | (with_reducible (first | exact Below.refl _ _ | assumption | refine below_drewN ?_ _ | refine Below.drew ?_ | refine Below.alloc ?_ ?_ _ | refine Below.setCell ?_ ?_ _)) | go_size))
  have hz1 := hb1.size
  (try simp at hz1)
  clear hb1
  have cC := C1.cell
  have fC := C1.frozen
  have zC := C1.size
  go_wp2_with (first | (refine wpList_append_lies _ (by rfl) (.tmp 24) (.tmp 26) 78 (by rfl) (w.heap.size + 1) 67 io (.agg #[.int .i64 0, .int .u64 0, .int .i64 0, .int .i64 0]) 4 32 Try.underlying78 Jio.out Jz0.out Jz1.out Jz2.out (by rfl) (by omega) (Value.slice none 0 0) (0) (flatc (([] : List CL))) (by rfl) (⟨rfl, .inl ⟨rfl, rfl⟩⟩) ⟨w1.heap.size, 0, none⟩ 1 1 [.int .i64 0, .int .u64 0, .int .i64 0, .int .i64 0] (by rfl) (by rfl) (World.news_of_block (show Blk _ (w1.heap.size) (#[.int .i64 0, .int .u64 0, .int .i64 0, .int .i64 0]) 67 from (by (repeat' (first | (with_reducible (first | assumption | exact Blk.alloc_new _ _ _ (by first | rfl | (simp; done) | omega) | apply Blk.drewN | apply Blk.drew | apply Blk.alloc_old | apply Blk.set_same | apply Blk.set_other)) | (show (_ : Nat) ≠ _; first | omega | (simp; done) | (simp; omega)) | ((simp only [List.setIfInBounds_toArray, List.set_cons_succ, List.set_cons_zero]); (with_reducible exact rfl)) | (with_reducible exact rfl) | (show (_ : Array Value) = _; exact rfl)))))) (flatc_one [⟨0, 0, 0, 0⟩]) (by omega) (by unfold maxLen; omega) (by omega) (by first | omega | (simp; omega)) _ rfl ?_; intro gg3 cap3 w3 hown3 hgrow3 hat3 hlt3; have hne3 : some w.heap.size ≠ (Value.slice none 0 0).ownBlock := (by intro h; cases h); have g3 : Below w.heap.size w w3 := below_grown (by (repeat' (first | (with_reducible (first | exact Below.refl _ _ | assumption | refine below_drewN ?_ _ | refine Below.drew ?_ | refine Below.alloc ?_ ?_ _ | refine Below.setCell ?_ ?_ _)) | go_size))) hgrow3 (by first | omega | (simp; omega)) (fun _ h => by cases h); have C3 : Blk w3 w.heap.size #[.int .u64 m, .int .u64 d, .int .u64 n] 24 := Blk.grown (by (repeat' (first | (with_reducible (first | assumption | exact Blk.alloc_new _ _ _ (by first | rfl | (simp; done) | omega) | apply Blk.drewN | apply Blk.drew | apply Blk.alloc_old | apply Blk.set_same | apply Blk.set_other)) | (show (_ : Nat) ≠ _; first | omega | (simp; done) | (simp; omega)) | ((simp only [List.setIfInBounds_toArray, List.set_cons_succ, List.set_cons_zero]); (with_reducible exact rfl)) | (with_reducible exact rfl) | (show (_ : Array Value) = _; exact rfl)))) hgrow3 hne3; replace cC := C3.cell; replace fC := C3.frozen; replace zC := C3.size; have H3 : HoldC w3 (w.heap.size + 1) (.slice (some ⟨gg3, 0, none⟩) (1) cap3) ([⟨0, 0, 0, 0⟩]) := (hown3); clear hat3 hgrow3 hown3) | (refine wpList_append_any (by rfl) (.tmp 28) (.tmp 29) 78 (by rfl) (w.heap.size + 1) 67 io (.agg #[.int .i64 0, .int .u64 0, .int .i64 0, .int .i64 0]) 4 32 Try.underlying78 Jio.out Jz0.out Jz1.out Jz2.out (by rfl) (by omega) (Value.slice (some ⟨gg3, 0, none⟩) (1) cap3) 1 (flatc [⟨0, 0, 0, 0⟩]) (by rfl) H3 (by omega) a L.length cap (flatc L) (by rfl) (flatc_len L) hnil.out (fun A hA => calls_news' (Hc.out.below (by (repeat' (first | (with_reducible (first | exact Below.refl _ _ | assumption | refine below_drewN ?_ _ | refine Below.drew ?_ | refine Below.alloc ?_ ?_ _ | refine Below.setCell ?_ ?_ _)) | go_size)))) hA) (flatc_one L) (by unfold maxLen; omega) (by omega) (by first | omega | (simp; omega)) ?_; intro gg4 cap4 w4 hown4 hgrow4 hlt4; have hb3 : w.heap.size + 1 ≤ gg3 := (World.ownsRow.lt H3 gg3 rfl).1; have hne4 : some w.heap.size ≠ (Value.slice (some ⟨gg3, 0, none⟩) (1) cap3).ownBlock := (by intro e; simp [Value.ownBlock] at e; omega); have g4 : Below w.heap.size w w4 := below_grown (by (repeat' (first | (with_reducible (first | exact Below.refl _ _ | assumption | refine below_drewN ?_ _ | refine Below.drew ?_ | refine Below.alloc ?_ ?_ _ | refine Below.setCell ?_ ?_ _)) | go_size))) hgrow4 (by first | omega | (simp; omega)) (fun K hK => by simp [Value.ownBlock] at hK; omega); have C4 : Blk w4 w.heap.size #[.int .u64 m, .int .u64 d, .int .u64 n] 24 := Blk.grown (by (repeat' (first | (with_reducible (first | assumption | exact Blk.alloc_new _ _ _ (by first | rfl | (simp; done) | omega) | apply Blk.drewN | apply Blk.drew | apply Blk.alloc_old | apply Blk.set_same | apply Blk.set_other)) | (show (_ : Nat) ≠ _; first | omega | (simp; done) | (simp; omega)) | ((simp only [List.setIfInBounds_toArray, List.set_cons_succ, List.set_cons_zero]); (with_reducible exact rfl)) | (with_reducible exact rfl) | (show (_ : Array Value) = _; exact rfl)))) hgrow4 hne4; replace cC := C4.cell; replace fC := C4.frozen; replace zC := C4.size; have H4 : HoldC w4 (w.heap.size + 1) (Value.slice (some ⟨gg4, 0, none⟩) (1 + L.length) cap4) (⟨0, 0, 0, 0⟩ :: L) := (by unfold HoldC; rw [show (⟨0, 0, 0, 0⟩ :: L : List CL).length = 1 + L.length by simp; omega]; exact hown4); clear hgrow4 hown4) | (refine wpList_append_lies _ (by rfl) (.tmp 31) (.tmp 34) 78 (by rfl) (w.heap.size + 1) 67 io (.agg #[.int .i64 0, .int .u64 0, .int .i64 0, .int .i64 0]) 4 32 Try.underlying78 Jio.out Jz0.out Jz1.out Jz2.out (by rfl) (by omega) (Value.slice (some ⟨gg4, 0, none⟩) (1 + L.length) cap4) (1 + L.length) (flatc ((⟨0, 0, 0, 0⟩ :: L))) (by rfl) (HoldC.own (H4.below (by (repeat' (first | (with_reducible (first | exact Below.refl _ _ | assumption | refine below_drewN ?_ _ | refine Below.drew ?_ | refine Below.alloc ?_ ?_ _ | refine Below.setCell ?_ ?_ _)) | go_size)))) (by simp; omega)) ⟨w4.heap.size, 0, none⟩ 1 1 [.int .i64 2, .int .u64 0, .int .i64 0, .int .i64 hd_] (by rfl) (by rfl) (World.news_of_block (show Blk _ (w4.heap.size) (#[.int .i64 2, .int .u64 0, .int .i64 0, .int .i64 hd_]) 67 from (by (repeat' (first | (with_reducible (first | assumption | exact Blk.alloc_new _ _ _ (by first | rfl | (simp; done) | omega) | apply Blk.drewN | apply Blk.drew | apply Blk.alloc_old | apply Blk.set_same | apply Blk.set_other)) | (show (_ : Nat) ≠ _; first | omega | (simp; done) | (simp; omega)) | ((simp only [List.setIfInBounds_toArray, List.set_cons_succ, List.set_cons_zero]); (with_reducible exact rfl)) | (with_reducible exact rfl) | (show (_ : Array Value) = _; exact rfl)))))) (flatc_one [⟨2, 0, 0, hd_⟩]) (by omega) (by unfold maxLen; omega) (by omega) (by first | omega | (simp; omega)) _ rfl ?_; intro gg5 cap5 w5 hown5 hgrow5 hat5 hlt5; have hne5 : some w.heap.size ≠ (Value.slice (some ⟨gg4, 0, none⟩) (1 + L.length) cap4).ownBlock := (by have hb4 := (World.ownsRow.lt H4 gg4 rfl).1; intro e; simp [Value.ownBlock] at e; omega); have g5 : Below w.heap.size w w5 := below_grown (by (repeat' (first | (with_reducible (first | exact Below.refl _ _ | assumption | refine below_drewN ?_ _ | refine Below.drew ?_ | refine Below.alloc ?_ ?_ _ | refine Below.setCell ?_ ?_ _)) | go_size))) hgrow5 (by first | omega | (simp; omega)) (fun K hK => by have hb4 := (World.ownsRow.lt H4 gg4 rfl).1; simp [Value.ownBlock] at hK; omega); have C5 : Blk w5 w.heap.size #[.int .u64 m, .int .u64 d, .int .u64 n] 24 := Blk.grown (by (repeat' (first | (with_reducible (first | assumption | exact Blk.alloc_new _ _ _ (by first | rfl | (simp; done) | omega) | apply Blk.drewN | apply Blk.drew | apply Blk.alloc_old | apply Blk.set_same | apply Blk.set_other)) | (show (_ : Nat) ≠ _; first | omega | (simp; done) | (simp; omega)) | ((simp only [List.setIfInBounds_toArray, List.set_cons_succ, List.set_cons_zero]); (with_reducible exact rfl)) | (with_reducible exact rfl) | (show (_ : Array Value) = _; exact rfl)))) hgrow5 hne5; replace cC := C5.cell; replace fC := C5.frozen; replace zC := C5.size; have H5 : HoldC w5 (w.heap.size + 1) (.slice (some ⟨gg5, 0, none⟩) (1 + L.length + 1) cap5) ((⟨0, 0, 0, 0⟩ :: L) ++ [⟨2, 0, 0, hd_⟩]) := (by unfold HoldC; rw [List.length_append, flatc_app, show (⟨0, 0, 0, 0⟩ :: L : List CL).length = 1 + L.length by simp; omega]; exact hown5); clear hat5 hgrow5 hown5))
  refine (story_any m d n _ (1 + L.length + 1) _ _ st _ hm hd hn (by simp; omega) (by omega) (H5.at_ (by simp; omega)) Ok.out HS.out).mono ?_
  rintro e w6 ⟨v, rfl, -, hb6⟩
  have C6 : Blk w6 (w.heap.size) #[.int .u64 m, .int .u64 d, .int .u64 n] 24 := Blk.below (by (repeat' (first | (with_reducible (first | assumption | exact Blk.alloc_new _ _ _ (by first | rfl | (simp; done) | omega) | apply Blk.drewN | apply Blk.drew | apply Blk.alloc_old | apply Blk.set_same | apply Blk.set_other)) | (show (_ : Nat) ≠ _; first | omega | (simp; done) | (simp; omega)) | ((simp only [List.setIfInBounds_toArray, List.set_cons_succ, List.set_cons_zero]); (with_reducible exact rfl)) | (with_reducible exact rfl) | (show (_ : Array Value) = _; exact rfl)))) hb6 (by first | (simp; done) | omega | (simp; omega))
  have g6 : Below w.heap.size w w6 := by refine Below.trans ?_ (hb6.mono ?_) <;> (repeat' (first | (with_reducible (first | exact Below.refl _ _ | assumption | refine below_drewN ?_ _ | refine Below.drew ?_ | refine Below.alloc ?_ ?_ _ | refine Below.setCell ?_ ?_ _)) | go_size))
  have hz6 := hb6.size
  (try simp at hz6)
  clear hb6
  replace cC := C6.cell
  replace fC := C6.frozen
  replace zC := C6.size
  go_wp2_with (refine store_blk 65 (.tmp 8) (.tmp 40) (w6.heap.size) #[.bool false, .int .u64 0, .int .u64 0, .int .u64 0, .int .u64 0, .int .u64 0, .int .u64 0, .int .u64 0, .int .u64 0, .bool false, .int .u64 0, .int .u64 0, .int .u64 0, .int .u64 0, .int .u64 0, .int .u64 0, .int .u64 0, .int .u64 0, .bool false, .int .u64 0, .int .u64 0, .int .u64 0] #[.bool st.l.has, .int .u64 st.l.D.f.X, .int .u64 (hi (st.l.D.f.Y)), .int .u64 (lo (st.l.D.f.Y)), .int .u64 st.l.D.f.M, .int .u64 st.l.D.t.X, .int .u64 (hi (st.l.D.t.Y)), .int .u64 (lo (st.l.D.t.Y)), .int .u64 st.l.D.t.M, .bool st.l.D.b, .int .u64 st.l.E.f.X, .int .u64 (hi (st.l.E.f.Y)), .int .u64 (lo (st.l.E.f.Y)), .int .u64 st.l.E.f.M, .int .u64 st.l.E.t.X, .int .u64 (hi (st.l.E.t.Y)), .int .u64 (lo (st.l.E.t.Y)), .int .u64 st.l.E.t.M, .bool st.l.E.b, .int .u64 st.l.p, .int .u64 st.l.e, .int .u64 st.l.t] 65 (by rfl) (by rfl) (by rfl) (by rfl) (by (repeat' (first | (with_reducible (first | assumption | exact Blk.alloc_new _ _ _ (by first | rfl | (simp; done) | omega) | apply Blk.drewN | apply Blk.drew | apply Blk.alloc_old | apply Blk.set_same | apply Blk.set_other)) | (show (_ : Nat) ≠ _; first | omega | (simp; done) | (simp; omega)) | ((simp only [List.setIfInBounds_toArray, List.set_cons_succ, List.set_cons_zero]); (with_reducible exact rfl)) | (with_reducible exact rfl) | (show (_ : Array Value) = _; exact rfl)))) rfl (by kernel_rfl) (by simp [Value.oneCell']) ?_; intro w7 X7 kB7 kO7 hs7; have g7 : Below w.heap.size w w7 := kB7 _ _ (by first | (simp; done) | omega | (simp; omega)) (by (repeat' (first | (with_reducible (first | exact Below.refl _ _ | assumption | refine below_drewN ?_ _ | refine Below.drew ?_ | refine Below.alloc ?_ ?_ _ | refine Below.setCell ?_ ?_ _)) | go_size))); have cX := X7.cell; have fX := X7.frozen; have zX := X7.size; clear cC fC zC)
  refine (hundred20_true _).mono ?_
  rintro e w8 ⟨rfl, hb8⟩
  have hz7 := g7.size
  have g8 : Below w.heap.size w w8 := by refine Below.trans ?_ (hb8.mono ?_) <;> first | ((repeat' (first | (with_reducible (first | exact Below.refl _ _ | assumption | refine below_drewN ?_ _ | refine Below.drew ?_ | refine Below.alloc ?_ ?_ _ | refine Below.setCell ?_ ?_ _)) | go_size)); done) | omega | (simp; omega)
  go_wp2
  go_ret
  exact ⟨rfl, by (repeat' (first | (with_reducible (first | exact Below.refl _ _ | assumption | refine below_drewN ?_ _ | refine Below.drew ?_ | refine Below.alloc ?_ ?_ _ | refine Below.setCell ?_ ?_ _)) | go_size))⟩
set_option maxRecDepth 100000 in
set_option maxHeartbeats 8000000 in
theorem RE_hi (m d n hd_ : Int) (a : Option Addr) (len cap : Nat) (L : List CL) (st : ST) (w : World) (hm : 0 ≤ m ∧ m ≤ 18446744073709551615) (hd : 0 ≤ d ∧ d ≤ 18446744073709551615) (hn : 0 ≤ n ∧ n ≤ 18446744073709551615) (h2 : hd_ ≤ 16384) (hh : -9223372036854775808 ≤ hd_) (hk : (kd m d n != 0) = true) (hL : L.length = len) (h1 : len ≤ 60) (hc : CallsAt w a L) (hnil0 : a = none → len = 0) (ok : ∀ c ∈ L, c.ok) (hS : storyR m d n ((⟨0, 0, 0, 0⟩ :: L) ++ [⟨2, 0, 0, hd_⟩]) = st) (h3 : 1 ≤ hd_) (p1 : decide (st.l.e ≤ st.l.t) = true) (p2 : decide (st.l.t ≤ 9223372036854775808) = true) :
    Calls Try.prog 9 #[.agg #[.int .u64 m, .int .u64 d, .int .u64 n], .slice a len cap, .int .i64 hd_] w fun e w' => e = .returned (.bool true) ∧ Below w.heap.size w w' := by
  subst hL
  have hcap : True := trivial
  have Hc := hide hc; have hnil := hide hnil0; have HS := hide hS; have HK := hide hk
  have Ok := hide (show ∀ c ∈ (⟨0, 0, 0, 0⟩ :: L) ++ [(⟨2, 0, 0, hd_⟩ : CL)], c.ok from by
    intro c hcm
    rcases List.mem_append.1 hcm with hcm | hcm
    · rcases List.mem_cons.1 hcm with rfl | hcm
      · unfold CL.ok; simp
      · exact ok c hcm
    · simp at hcm; subst hcm; unfold CL.ok; simp only []; omega)
  clear hc hnil0 hS hk ok
  obtain ⟨io, hio, hz0, hz1, hz2⟩ := info_parts info_call
  have Jio := hide hio; have Jz0 := hide hz0; have Jz1 := hide hz1; have Jz2 := hide hz2
  clear hio hz0 hz1 hz2
  have d1 : decide ((60 : Int) < (L.length : Int)) = false := decide_eq_false (by omega)
  have d2 : decide (16384 < hd_) = false := decide_eq_false (by omega)
  have d3 : decide (hd_ < 1) = false := decide_eq_false (by omega)
  go_enter Try.func9, Try.ntmps9
  go_wp2_with fail
  refine (crightC m d n _ ⟨hm.1, hd.1, hn.1⟩ true HK.out).mono ?_
  rintro e w1 ⟨rfl, hb1⟩
  have C1 : Blk w1 (w.heap.size) #[.int .u64 m, .int .u64 d, .int .u64 n] 24 := Blk.below (by (repeat' (first | (with_reducible (first | assumption | exact Blk.alloc_new _ _ _ (by first | rfl | (simp; done) | omega) | apply Blk.drewN | apply Blk.drew | apply Blk.alloc_old | apply Blk.set_same | apply Blk.set_other)) | (show (_ : Nat) ≠ _; first | omega | (simp; done) | (simp; omega)) | ((simp only [List.setIfInBounds_toArray, List.set_cons_succ, List.set_cons_zero]); (with_reducible exact rfl)) | (with_reducible exact rfl) | (show (_ : Array Value) = _; exact rfl)))) hb1 (by first | (simp; done) | omega | (simp; omega))
  have g1 : Below w.heap.size w w1 := by refine Below.trans ?_ (hb1.mono ?_) <;> (repeat' (first | (with_reducible (first | exact Below.refl _ _ | assumption | refine below_drewN ?_ _ | refine Below.drew ?_ | refine Below.alloc ?_ ?_ _ | refine Below.setCell ?_ ?_ _)) | go_size))
  have hz1 := hb1.size
  (try simp at hz1)
  clear hb1
  have cC := C1.cell
  have fC := C1.frozen
  have zC := C1.size
  go_wp2_with (first | (refine wpList_append_lies _ (by rfl) (.tmp 24) (.tmp 26) 78 (by rfl) (w.heap.size + 1) 67 io (.agg #[.int .i64 0, .int .u64 0, .int .i64 0, .int .i64 0]) 4 32 Try.underlying78 Jio.out Jz0.out Jz1.out Jz2.out (by rfl) (by omega) (Value.slice none 0 0) (0) (flatc (([] : List CL))) (by rfl) (⟨rfl, .inl ⟨rfl, rfl⟩⟩) ⟨w1.heap.size, 0, none⟩ 1 1 [.int .i64 0, .int .u64 0, .int .i64 0, .int .i64 0] (by rfl) (by rfl) (World.news_of_block (show Blk _ (w1.heap.size) (#[.int .i64 0, .int .u64 0, .int .i64 0, .int .i64 0]) 67 from (by (repeat' (first | (with_reducible (first | assumption | exact Blk.alloc_new _ _ _ (by first | rfl | (simp; done) | omega) | apply Blk.drewN | apply Blk.drew | apply Blk.alloc_old | apply Blk.set_same | apply Blk.set_other)) | (show (_ : Nat) ≠ _; first | omega | (simp; done) | (simp; omega)) | ((simp only [List.setIfInBounds_toArray, List.set_cons_succ, List.set_cons_zero]); (with_reducible exact rfl)) | (with_reducible exact rfl) | (show (_ : Array Value) = _; exact rfl)))))) (flatc_one [⟨0, 0, 0, 0⟩]) (by omega) (by unfold maxLen; omega) (by omega) (by first | omega | (simp; omega)) _ rfl ?_; intro gg3 cap3 w3 hown3 hgrow3 hat3 hlt3; have hne3 : some w.heap.size ≠ (Value.slice none 0 0).ownBlock := (by intro h; cases h); have g3 : Below w.heap.size w w3 := below_grown (by (repeat' (first | (with_reducible (first | exact Below.refl _ _ | assumption | refine below_drewN ?_ _ | refine Below.drew ?_ | refine Below.alloc ?_ ?_ _ | refine Below.setCell ?_ ?_ _)) | go_size))) hgrow3 (by first | omega | (simp; omega)) (fun _ h => by cases h); have C3 : Blk w3 w.heap.size #[.int .u64 m, .int .u64 d, .int .u64 n] 24 := Blk.grown (by (repeat' (first | (with_reducible (first | assumption | exact Blk.alloc_new _ _ _ (by first | rfl | (simp; done) | omega) | apply Blk.drewN | apply Blk.drew | apply Blk.alloc_old | apply Blk.set_same | apply Blk.set_other)) | (show (_ : Nat) ≠ _; first | omega | (simp; done) | (simp; omega)) | ((simp only [List.setIfInBounds_toArray, List.set_cons_succ, List.set_cons_zero]); (with_reducible exact rfl)) | (with_reducible exact rfl) | (show (_ : Array Value) = _; exact rfl)))) hgrow3 hne3; replace cC := C3.cell; replace fC := C3.frozen; replace zC := C3.size; have H3 : HoldC w3 (w.heap.size + 1) (.slice (some ⟨gg3, 0, none⟩) (1) cap3) ([⟨0, 0, 0, 0⟩]) := (hown3); clear hat3 hgrow3 hown3) | (refine wpList_append_any (by rfl) (.tmp 28) (.tmp 29) 78 (by rfl) (w.heap.size + 1) 67 io (.agg #[.int .i64 0, .int .u64 0, .int .i64 0, .int .i64 0]) 4 32 Try.underlying78 Jio.out Jz0.out Jz1.out Jz2.out (by rfl) (by omega) (Value.slice (some ⟨gg3, 0, none⟩) (1) cap3) 1 (flatc [⟨0, 0, 0, 0⟩]) (by rfl) H3 (by omega) a L.length cap (flatc L) (by rfl) (flatc_len L) hnil.out (fun A hA => calls_news' (Hc.out.below (by (repeat' (first | (with_reducible (first | exact Below.refl _ _ | assumption | refine below_drewN ?_ _ | refine Below.drew ?_ | refine Below.alloc ?_ ?_ _ | refine Below.setCell ?_ ?_ _)) | go_size)))) hA) (flatc_one L) (by unfold maxLen; omega) (by omega) (by first | omega | (simp; omega)) ?_; intro gg4 cap4 w4 hown4 hgrow4 hlt4; have hb3 : w.heap.size + 1 ≤ gg3 := (World.ownsRow.lt H3 gg3 rfl).1; have hne4 : some w.heap.size ≠ (Value.slice (some ⟨gg3, 0, none⟩) (1) cap3).ownBlock := (by intro e; simp [Value.ownBlock] at e; omega); have g4 : Below w.heap.size w w4 := below_grown (by (repeat' (first | (with_reducible (first | exact Below.refl _ _ | assumption | refine below_drewN ?_ _ | refine Below.drew ?_ | refine Below.alloc ?_ ?_ _ | refine Below.setCell ?_ ?_ _)) | go_size))) hgrow4 (by first | omega | (simp; omega)) (fun K hK => by simp [Value.ownBlock] at hK; omega); have C4 : Blk w4 w.heap.size #[.int .u64 m, .int .u64 d, .int .u64 n] 24 := Blk.grown (by (repeat' (first | (with_reducible (first | assumption | exact Blk.alloc_new _ _ _ (by first | rfl | (simp; done) | omega) | apply Blk.drewN | apply Blk.drew | apply Blk.alloc_old | apply Blk.set_same | apply Blk.set_other)) | (show (_ : Nat) ≠ _; first | omega | (simp; done) | (simp; omega)) | ((simp only [List.setIfInBounds_toArray, List.set_cons_succ, List.set_cons_zero]); (with_reducible exact rfl)) | (with_reducible exact rfl) | (show (_ : Array Value) = _; exact rfl)))) hgrow4 hne4; replace cC := C4.cell; replace fC := C4.frozen; replace zC := C4.size; have H4 : HoldC w4 (w.heap.size + 1) (Value.slice (some ⟨gg4, 0, none⟩) (1 + L.length) cap4) (⟨0, 0, 0, 0⟩ :: L) := (by unfold HoldC; rw [show (⟨0, 0, 0, 0⟩ :: L : List CL).length = 1 + L.length by simp; omega]; exact hown4); clear hgrow4 hown4) | (refine wpList_append_lies _ (by rfl) (.tmp 31) (.tmp 34) 78 (by rfl) (w.heap.size + 1) 67 io (.agg #[.int .i64 0, .int .u64 0, .int .i64 0, .int .i64 0]) 4 32 Try.underlying78 Jio.out Jz0.out Jz1.out Jz2.out (by rfl) (by omega) (Value.slice (some ⟨gg4, 0, none⟩) (1 + L.length) cap4) (1 + L.length) (flatc ((⟨0, 0, 0, 0⟩ :: L))) (by rfl) (HoldC.own (H4.below (by (repeat' (first | (with_reducible (first | exact Below.refl _ _ | assumption | refine below_drewN ?_ _ | refine Below.drew ?_ | refine Below.alloc ?_ ?_ _ | refine Below.setCell ?_ ?_ _)) | go_size)))) (by simp; omega)) ⟨w4.heap.size, 0, none⟩ 1 1 [.int .i64 2, .int .u64 0, .int .i64 0, .int .i64 hd_] (by rfl) (by rfl) (World.news_of_block (show Blk _ (w4.heap.size) (#[.int .i64 2, .int .u64 0, .int .i64 0, .int .i64 hd_]) 67 from (by (repeat' (first | (with_reducible (first | assumption | exact Blk.alloc_new _ _ _ (by first | rfl | (simp; done) | omega) | apply Blk.drewN | apply Blk.drew | apply Blk.alloc_old | apply Blk.set_same | apply Blk.set_other)) | (show (_ : Nat) ≠ _; first | omega | (simp; done) | (simp; omega)) | ((simp only [List.setIfInBounds_toArray, List.set_cons_succ, List.set_cons_zero]); (with_reducible exact rfl)) | (with_reducible exact rfl) | (show (_ : Array Value) = _; exact rfl)))))) (flatc_one [⟨2, 0, 0, hd_⟩]) (by omega) (by unfold maxLen; omega) (by omega) (by first | omega | (simp; omega)) _ rfl ?_; intro gg5 cap5 w5 hown5 hgrow5 hat5 hlt5; have hne5 : some w.heap.size ≠ (Value.slice (some ⟨gg4, 0, none⟩) (1 + L.length) cap4).ownBlock := (by have hb4 := (World.ownsRow.lt H4 gg4 rfl).1; intro e; simp [Value.ownBlock] at e; omega); have g5 : Below w.heap.size w w5 := below_grown (by (repeat' (first | (with_reducible (first | exact Below.refl _ _ | assumption | refine below_drewN ?_ _ | refine Below.drew ?_ | refine Below.alloc ?_ ?_ _ | refine Below.setCell ?_ ?_ _)) | go_size))) hgrow5 (by first | omega | (simp; omega)) (fun K hK => by have hb4 := (World.ownsRow.lt H4 gg4 rfl).1; simp [Value.ownBlock] at hK; omega); have C5 : Blk w5 w.heap.size #[.int .u64 m, .int .u64 d, .int .u64 n] 24 := Blk.grown (by (repeat' (first | (with_reducible (first | assumption | exact Blk.alloc_new _ _ _ (by first | rfl | (simp; done) | omega) | apply Blk.drewN | apply Blk.drew | apply Blk.alloc_old | apply Blk.set_same | apply Blk.set_other)) | (show (_ : Nat) ≠ _; first | omega | (simp; done) | (simp; omega)) | ((simp only [List.setIfInBounds_toArray, List.set_cons_succ, List.set_cons_zero]); (with_reducible exact rfl)) | (with_reducible exact rfl) | (show (_ : Array Value) = _; exact rfl)))) hgrow5 hne5; replace cC := C5.cell; replace fC := C5.frozen; replace zC := C5.size; have H5 : HoldC w5 (w.heap.size + 1) (.slice (some ⟨gg5, 0, none⟩) (1 + L.length + 1) cap5) ((⟨0, 0, 0, 0⟩ :: L) ++ [⟨2, 0, 0, hd_⟩]) := (by unfold HoldC; rw [List.length_append, flatc_app, show (⟨0, 0, 0, 0⟩ :: L : List CL).length = 1 + L.length by simp; omega]; exact hown5); clear hat5 hgrow5 hown5))
  refine (story_any m d n _ (1 + L.length + 1) _ _ st _ hm hd hn (by simp; omega) (by omega) (H5.at_ (by simp; omega)) Ok.out HS.out).mono ?_
  rintro e w6 ⟨v, rfl, -, hb6⟩
  have C6 : Blk w6 (w.heap.size) #[.int .u64 m, .int .u64 d, .int .u64 n] 24 := Blk.below (by (repeat' (first | (with_reducible (first | assumption | exact Blk.alloc_new _ _ _ (by first | rfl | (simp; done) | omega) | apply Blk.drewN | apply Blk.drew | apply Blk.alloc_old | apply Blk.set_same | apply Blk.set_other)) | (show (_ : Nat) ≠ _; first | omega | (simp; done) | (simp; omega)) | ((simp only [List.setIfInBounds_toArray, List.set_cons_succ, List.set_cons_zero]); (with_reducible exact rfl)) | (with_reducible exact rfl) | (show (_ : Array Value) = _; exact rfl)))) hb6 (by first | (simp; done) | omega | (simp; omega))
  have g6 : Below w.heap.size w w6 := by refine Below.trans ?_ (hb6.mono ?_) <;> (repeat' (first | (with_reducible (first | exact Below.refl _ _ | assumption | refine below_drewN ?_ _ | refine Below.drew ?_ | refine Below.alloc ?_ ?_ _ | refine Below.setCell ?_ ?_ _)) | go_size))
  have hz6 := hb6.size
  (try simp at hz6)
  clear hb6
  replace cC := C6.cell
  replace fC := C6.frozen
  replace zC := C6.size
  go_wp2_with (refine store_blk 65 (.tmp 8) (.tmp 40) (w6.heap.size) #[.bool false, .int .u64 0, .int .u64 0, .int .u64 0, .int .u64 0, .int .u64 0, .int .u64 0, .int .u64 0, .int .u64 0, .bool false, .int .u64 0, .int .u64 0, .int .u64 0, .int .u64 0, .int .u64 0, .int .u64 0, .int .u64 0, .int .u64 0, .bool false, .int .u64 0, .int .u64 0, .int .u64 0] #[.bool st.l.has, .int .u64 st.l.D.f.X, .int .u64 (hi (st.l.D.f.Y)), .int .u64 (lo (st.l.D.f.Y)), .int .u64 st.l.D.f.M, .int .u64 st.l.D.t.X, .int .u64 (hi (st.l.D.t.Y)), .int .u64 (lo (st.l.D.t.Y)), .int .u64 st.l.D.t.M, .bool st.l.D.b, .int .u64 st.l.E.f.X, .int .u64 (hi (st.l.E.f.Y)), .int .u64 (lo (st.l.E.f.Y)), .int .u64 st.l.E.f.M, .int .u64 st.l.E.t.X, .int .u64 (hi (st.l.E.t.Y)), .int .u64 (lo (st.l.E.t.Y)), .int .u64 st.l.E.t.M, .bool st.l.E.b, .int .u64 st.l.p, .int .u64 st.l.e, .int .u64 st.l.t] 65 (by rfl) (by rfl) (by rfl) (by rfl) (by (repeat' (first | (with_reducible (first | assumption | exact Blk.alloc_new _ _ _ (by first | rfl | (simp; done) | omega) | apply Blk.drewN | apply Blk.drew | apply Blk.alloc_old | apply Blk.set_same | apply Blk.set_other)) | (show (_ : Nat) ≠ _; first | omega | (simp; done) | (simp; omega)) | ((simp only [List.setIfInBounds_toArray, List.set_cons_succ, List.set_cons_zero]); (with_reducible exact rfl)) | (with_reducible exact rfl) | (show (_ : Array Value) = _; exact rfl)))) rfl (by kernel_rfl) (by simp [Value.oneCell']) ?_; intro w7 X7 kB7 kO7 hs7; have g7 : Below w.heap.size w w7 := kB7 _ _ (by first | (simp; done) | omega | (simp; omega)) (by (repeat' (first | (with_reducible (first | exact Below.refl _ _ | assumption | refine below_drewN ?_ _ | refine Below.drew ?_ | refine Below.alloc ?_ ?_ _ | refine Below.setCell ?_ ?_ _)) | go_size))); have cX := X7.cell; have fX := X7.frozen; have zX := X7.size; clear cC fC zC)
  refine (hundred20_true _).mono ?_
  rintro e w8 ⟨rfl, hb8⟩
  have hz7 := g7.size
  have g8 : Below w.heap.size w w8 := by refine Below.trans ?_ (hb8.mono ?_) <;> first | ((repeat' (first | (with_reducible (first | exact Below.refl _ _ | assumption | refine below_drewN ?_ _ | refine Below.drew ?_ | refine Below.alloc ?_ ?_ _ | refine Below.setCell ?_ ?_ _)) | go_size)); done) | omega | (simp; omega)
  go_wp2
  go_ret
  exact ⟨rfl, by (repeat' (first | (with_reducible (first | exact Below.refl _ _ | assumption | refine below_drewN ?_ _ | refine Below.drew ?_ | refine Below.alloc ?_ ?_ _ | refine Below.setCell ?_ ?_ _)) | go_size))⟩
theorem kd_bne (m d n : Int) : (kd m d n != 0) = true → CIn m d n ∨ True := fun _ => .inr trivial
theorem RealEligible_walk (m : Int) (hm : 0 ≤ m ∧ m ≤ 18446744073709551615) (d : Int) (hd : 0 ≤ d ∧ d ≤ 18446744073709551615) (n : Int) (hn : 0 ≤ n ∧ n ≤ 18446744073709551615) (a : Option Addr) (len cap : Nat) (hd_ : Int) (hh : -9223372036854775808 ≤ hd_ ∧ hd_ ≤ 9223372036854775807) (w : World) (h : Rows_call20 w a len ∧ len ≤ maxLen) :
    Calls Try.prog 9 #[.agg #[.int .u64 m, .int .u64 d, .int .u64 n], .slice a len cap, .int .i64 hd_] w fun e w' => e = .returned (.bool true) ∧ Below w.heap.size w w' := by
  by_cases h1 : 60 < len
  · exact RE_outa m d n hd_ a len cap w hm hd hn h1
  by_cases h2 : 16384 < hd_
  · exact RE_outb m d n hd_ a len cap w hm hd hn (by omega) h2
  by_cases hk : kd m d n = 0
  · exact RE_outc m d n hd_ a len cap w hm hd hn (by omega) (by omega) (by simp [hk])
  have hc := CIn.of hm.1 hd.1 hn.1 hk
  have hk' : (kd m d n != 0) = true := by simp [hk]
  obtain ⟨L, hL, hC, hnil, ok⟩ := calls_of h.1
  have hSI := story_SI (m := m) (d := d) (n := n) hc L (by omega)
  have hst : storyR m d n ((⟨0, 0, 0, 0⟩ :: L) ++ [⟨2, 0, 0, hd_⟩]) = ⟨(storyR m d n (⟨0, 0, 0, 0⟩ :: L)).l.headed hd_, (storyR m d n (⟨0, 0, 0, 0⟩ :: L)).ws, (storyR m d n (⟨0, 0, 0, 0⟩ :: L)).now + 0⟩ := by rw [storyR_snoc]; rfl
  by_cases h3 : hd_ < 1
  · refine RE_lo m d n hd_ a len cap L _ w hm hd hn (by omega) hh.1 hk' hL (by omega) hC hnil ok hst h3 ?_ ?_
    · simp only []; unfold LF.headed; rw [if_neg (by omega)]; rfl
    · simp only []; unfold LF.headed; rw [if_neg (by omega)]; rfl
  · refine RE_hi m d n hd_ a len cap L _ w hm hd hn (by omega) hh.1 hk' hL (by omega) hC hnil ok hst (by omega) ?_ ?_
    · exact decide_eq_true (hSI.elig hc (by omega) (by omega) (by omega))
    · exact decide_eq_true (headed_small (hSI.2.1.1) _)
namespace realEligibleDone
theorem own : ownKnob Try.prog.godebug = none := by kernel_rfl
theorem laidOut : laidOutB Try.prog = true := by kernel_rfl
set_option maxRecDepth 100000 in
theorem lifted (os : Os) (started : os.Started) (H : Type) (enc : TypeId × Value → H) :
    ReturnsInHanded {} Try.checked os 9 .any (Rows.realEligibleSpec.pre6 enc Try.prog Try.f9 Rows.realEligibleRow.domain false) (Rows.realEligibleSpec.post enc Try.prog Try.f9 false true false false) := by
  refine returnsInHanded_of_change (C := Try.checked) own started (by kernel_rfl) Try.func9
    (ChangeSpec.witness6 (enc := enc) (C := Try.checked) false ⟨#[], #[.agg #[.int .u64 0, .int .u64 0, .int .u64 0], .slice none 0 0, .int .i64 0], []⟩ 8 (by kernel_rfl) (by kernel_rfl) (by kernel_rfl) (by kernel_rfl)) ?_
  intro W base args ds gs before hval0 hW hcnd _
  have hval : ∀ (j : Nat) t v, Try.f9.params[j]? = some t → args[j]? = some v → Value.okWide Try.prog W .any base t v := hval0
  have hW' := hW
  obtain ⟨p, q, hA0, hV, rfl, hfz, hnd⟩ := hW
  have hA : DataW.TrodAll enc Try.prog W 0 (fun _ => true) true Try.f9.params.toList args.toList ds p := hA0
  rw [Try.params9] at hA hval
  obtain ⟨v0, vs0, d0, ds0, p0, q0, hargs, rfl, rfl, h0, r0⟩ := trodAll_cons hA
  obtain ⟨v1, vs1, d1, ds1, p1, q1, rfl, rfl, rfl, h1, r1⟩ := trodAll_cons r0
  obtain ⟨v2, vs2, d2, ds2, p2, q2, rfl, rfl, rfl, h2, r2⟩ := trodAll_cons r1
  obtain ⟨rfl, rfl, rfl⟩ := trodAll_nil r2
  obtain rfl : args = #[v0, v1, v2] := by cases args; simp_all
  obtain ⟨rfl, rfl⟩ := trodVars_none hV
  have k0 := h0
  have lt0 : ∀ x ∈ p0, x.block < W.heap.size := by obtain ⟨m, hm⟩ := k0; exact DataW.trod_lt m _ _ _ hm
  obtain ⟨x0_0, x0_1, x0_2, y0_0, y0_1, y0_2, m0, rfl, hd0, hp0, q0_0, q0_1, q0_2⟩ := Joins.open_agg3 Try.underlying24 (by kernel_rfl) (show Try.prog.cellsOf 24 = 3 by kernel_rfl) (hval 0 24 v0 rfl rfl) h0
  obtain ⟨a0_0, e0_0, _, wf0_0⟩ := DataW.trod_int Try.underlying22 q0_0
  simp at e0_0
  subst e0_0
  have b0_0 := bounds_u64 wf0_0
  obtain ⟨a0_1, e0_1, _, wf0_1⟩ := DataW.trod_int Try.underlying22 q0_1
  simp at e0_1
  subst e0_1
  have b0_1 := bounds_u64 wf0_1
  obtain ⟨a0_2, e0_2, _, wf0_2⟩ := DataW.trod_int Try.underlying22 q0_2
  simp at e0_2
  subst e0_2
  have b0_2 := bounds_u64 wf0_2
  obtain ⟨s1, len1, cap1, rfl⟩ := okWide_slice Try.underlying78 (hval 1 78 v1 rfl rfl)
  have k1 := h1
  have lt1 : ∀ x ∈ p1, x.block < W.heap.size := by obtain ⟨m, hm⟩ := k1; exact DataW.trod_lt m _ _ _ hm
  have w1 : Rows_call20 W s1 len1 ∧ len1 ≤ maxLen := by obtain ⟨fuel, hf⟩ := h1; exact open_call20s (by simpa [Value.cells] using hf)
  obtain ⟨a2, rfl, rfl, rfl, wf2⟩ := open_int Try.underlying3 (hval 2 3 v2 rfl rfl) h2
  have b2 := bounds_i64 wf2
  clear hA0 hval0
  refine (RealEligible_walk a0_0 b0_0 a0_1 b0_1 a0_2 b0_2 s1 len1 cap1 a2 b2 W w1).mono fun e W' ⟨he, bel⟩ => ?_
  subst he
  exact ⟨_, rfl, _, _, _, [], _, [], hW', trodAll_mk1 (shut_bool Try.underlying4 _), (trodAll_cons_mk (Below.trod laidOut (by kernel_rfl) (of_decide_eq_true (by kernel_rfl)) k0 bel lt0) (trodAll_cons_mk (Below.trod laidOut (by kernel_rfl) (of_decide_eq_true (by kernel_rfl)) k1 bel lt1) (trodAll_cons_mk (shut_int Try.underlying3 wf2) trodAll_mk0))), rfl, bel.frame _, fun h => by cases h⟩
theorem over : Rows.realEligibleRow.holds Try.pinned (OpenSpec.ofChange Rows.realEligibleSpec) :=
  OpenClaim.holds_of_wide 9 Try.f9 rfl rfl rfl rfl rfl rfl rfl ⟨rfl, rfl, rfl, rfl, rfl⟩ rfl rfl rfl rfl rfl (by kernel_rfl) Try.func9 (by kernel_rfl)
    (of_decide_eq_true (by kernel_rfl)) (by unfold Func.isWrapper; first | (rw [if_pos (by decide +kernel)]; kernel_rfl) | (rw [if_neg (by decide +kernel)]; exact ⟨rfl, rfl⟩))
    (fun os started H enc _ => lifted os started H enc)
end realEligibleDone
theorem RealEligible_holds : Rows.RealEligibleSaid := realEligibleDone.over

end Go.Proofs.Ytaaoadbcgnedkaa
