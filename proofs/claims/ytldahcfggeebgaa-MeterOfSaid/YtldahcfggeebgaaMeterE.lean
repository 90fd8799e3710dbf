/-
  The statement MeterNil: a nil meter has no average; the closed example 'eighty'. Conditions: none.
-/
import Derived.Test.YtldahcfggeebgaaMeterA
import Derived.Test.YtldahcfggeebgaaFrame
import Derived.Deep.Slices
namespace Go.Proofs.Ytldahcfggeebgaa
open Go.ChangeShapes Go.WideShapes Go.ChangeAt Go.RowKit
set_option linter.unusedVariables false
set_option linter.unusedSimpArgs false
theorem eighty_c : ∃ c, mavg 1 1310720 0 2 46116860184273879 = c ∧ 0 ≤ c ∧ c < 4 ∧ c ≤ 72057594037927936 := by
  refine ⟨_, rfl, ?_⟩
  have h : mavg 1 1310720 0 2 46116860184273879 = mrun 1 (46116860184273879 - 2 - 1 : Int).toNat (mst 1 1310720 0) := by unfold mavg; rw [if_neg (by omega)]
  have m := mst_le (s := 1) (a := 1310720) (by omega)
  have r := mrun_rng (s := 1) (46116860184273879 - 2 - 1 : Int).toNat (mst 1 1310720 0) m.1
  have f := mrun_fades (s := 1) (a := mst 1 1310720 0) (n := (46116860184273879 - 2 - 1 : Int).toNat) (by omega) m.1 (by omega) (by omega)
  rw [← h] at r f
  have e : (2 : Int) ^ (1 : Int).toNat = 2 := by decide
  rw [e] at f
  omega
set_option maxRecDepth 100000 in
set_option maxHeartbeats 2000000 in
theorem eighty_true (w : World) :
    Calls Try.prog 12 #[] w fun e w' => e = .returned (.bool true) ∧ Below w.heap.size w w' := by
  obtain ⟨c, hc, hc0, hc4, hc9⟩ := eighty_c
  have Hc := hide hc; clear hc
  go_enter Try.func12, Try.ntmps12
  go_wp2_with fail
  refine (meNew 100 1 _ (by omega) (by omega)).mono ?_
  rintro e w1 ⟨rfl, b1, L1⟩
  have z1 := L1.size
  go_wp2_with fail
  refine (meAdd_ok w.heap.size 100 1 0 0 0 10 0 _ L1 (by omega) (by omega) rfl (by omega) (by omega) (by omega) (by omega) (by omega) (by omega) 80 0 80 (by omega) (by decide) (by decide)).mono ?_
  rintro e w2 ⟨rfl, L2', K2⟩
  have L2 : Blk w2 w.heap.size #[.int .u64 (100), .int .u64 (1), .int .u64 (0), .int .u64 (0), .int .u64 (80)] 77 := L2'
  have b2 := b1.trans K2.1
  have z2 := L2.size
  clear L2' K2
  go_wp2_with fail
  refine (meAvg_ok w.heap.size 100 1 0 0 80 150 1 _ L2 (by omega) (by omega) rfl (by omega) (by omega) (by omega) (by omega) (by omega) (by omega) 2621440 0 (by decide) (by decide)).mono ?_
  rintro e w3 ⟨rfl, L3', K3⟩
  have L3 : Blk w3 w.heap.size #[.int .u64 (100), .int .u64 (1), .int .u64 (2621440), .int .u64 (1), .int .u64 (0)] 77 := L3'
  have b3 := b2.trans K3.1
  have z3 := L3.size
  clear L3' K3
  go_wp2_with fail
  refine (meAvg_ok w.heap.size 100 1 2621440 1 0 250 2 _ L3 (by omega) (by omega) rfl (by omega) (by omega) (by omega) (by omega) (by omega) (by omega) 1310720 0 (by decide) (by decide)).mono ?_
  rintro e w4 ⟨rfl, L4', K4⟩
  have L4 : Blk w4 w.heap.size #[.int .u64 (100), .int .u64 (1), .int .u64 (1310720), .int .u64 (2), .int .u64 (0)] 77 := L4'
  have b4 := b3.trans K4.1
  have z4 := L4.size
  clear L4' K4
  go_wp2_with fail
  refine (meAvg_ok w.heap.size 100 1 1310720 2 0 4611686018427387904 46116860184273879 _ L4 (by omega) (by omega) rfl (by omega) (by omega) (by omega) (by omega) (by omega) (by omega) c 0 Hc.out (by decide)).mono ?_
  rintro e w5 ⟨rfl, L5', K5⟩
  have L5 : Blk w5 w.heap.size #[.int .u64 (100), .int .u64 (1), .int .u64 (c), .int .u64 (46116860184273879), .int .u64 (0)] 77 := L5'
  have b5 := b4.trans K5.1
  have z5 := L5.size
  clear L5' K5
  go_wp2_with fail
  refine (meAdd_bad w.heap.size 100 1 c 46116860184273879 0 5 0 _ L5 (by omega) (by omega) rfl 1 (by omega) (.inl (by omega))).mono ?_
  rintro e w6 ⟨rfl, hb6⟩
  have g6 : Below w.heap.size w w6 := by refine Below.trans ?_ (hb6.mono ?_) <;> (repeat' (first | (with_reducible (first | exact Below.refl _ _ | assumption | refine below_drewN ?_ _ | refine Below.drew ?_ | refine Below.alloc ?_ ?_ _ | refine Below.setCell ?_ ?_ _)) | go_size))
  have hz6 := hb6.size
  (try simp at hz6)
  clear hb6
  go_wp2
  go_ret
  exact ⟨rfl, by (repeat' (first | (with_reducible (first | exact Below.refl _ _ | assumption | refine below_drewN ?_ _ | refine Below.drew ?_ | refine Below.alloc ?_ ?_ _ | refine Below.setCell ?_ ?_ _)) | go_size))⟩
theorem meOpen_nil (w : World) :
    Calls Try.prog 20 #[.pointer none] w fun e w' => e = .returned (.tuple #[.int .u64 0, .int .u64 0]) ∧ Below w.heap.size w w' := by
  go_enter Try.func20, Try.ntmps20
  go_wp2
  go_returns
  exact ⟨rfl, by (repeat' (first | (with_reducible (first | exact Below.refl _ _ | assumption | refine below_drewN ?_ _ | refine Below.drew ?_ | refine Below.alloc ?_ ?_ _ | refine Below.setCell ?_ ?_ _)) | go_size))⟩
theorem MeterNil_walk (kd : Int) (hk : -9223372036854775808 ≤ kd ∧ kd ≤ 9223372036854775807) (at_ : Int) (ha : 0 ≤ at_ ∧ at_ ≤ 18446744073709551615) (b : Int) (hb : -9223372036854775808 ≤ b ∧ b ≤ 9223372036854775807) (w : World) :
    Calls Try.prog 6 #[.agg #[.int .i64 kd, .int .u64 at_, .int .i64 b]] w fun e w' => e = .returned (.bool true) ∧ Below w.heap.size w w' := by
  go_enter Try.func6, Try.ntmps6
  go_wp2_with fail
  refine (meAvg_nil at_ _).mono ?_
  rintro e w1 ⟨rfl, hb1⟩
  have A1 : Blk w1 (w.heap.size) #[.int .i64 kd, .int .u64 at_, .int .i64 b] 33 := Blk.below (by (repeat' (first | (with_reducible (first | assumption | exact Blk.alloc_new _ _ _ (by first | rfl | (simp; done) | omega) | apply Blk.drewN | apply Blk.drew | apply Blk.alloc_old | apply Blk.set_same | apply Blk.set_other)) | (show (_ : Nat) ≠ _; first | omega | (simp; done) | (simp; omega)) | ((simp only [List.setIfInBounds_toArray, List.set_cons_succ, List.set_cons_zero]); (with_reducible exact rfl)) | (with_reducible exact rfl) | (show (_ : Array Value) = _; exact rfl)))) hb1 (by first | (simp; done) | omega | (simp; omega))
  have g1 : Below w.heap.size w w1 := by refine Below.trans ?_ (hb1.mono ?_) <;> (repeat' (first | (with_reducible (first | exact Below.refl _ _ | assumption | refine below_drewN ?_ _ | refine Below.drew ?_ | refine Below.alloc ?_ ?_ _ | refine Below.setCell ?_ ?_ _)) | go_size))
  have hz1 := hb1.size
  (try simp at hz1)
  clear hb1
  replace cA := A1.cell
  replace fA := A1.frozen
  replace zA := A1.size
  go_wp2_with fail
  refine (meOpen_nil _).mono ?_
  rintro e w2 ⟨rfl, hb2⟩
  have A2 : Blk w2 (w.heap.size) #[.int .i64 kd, .int .u64 at_, .int .i64 b] 33 := Blk.below (by (repeat' (first | (with_reducible (first | assumption | exact Blk.alloc_new _ _ _ (by first | rfl | (simp; done) | omega) | apply Blk.drewN | apply Blk.drew | apply Blk.alloc_old | apply Blk.set_same | apply Blk.set_other)) | (show (_ : Nat) ≠ _; first | omega | (simp; done) | (simp; omega)) | ((simp only [List.setIfInBounds_toArray, List.set_cons_succ, List.set_cons_zero]); (with_reducible exact rfl)) | (with_reducible exact rfl) | (show (_ : Array Value) = _; exact rfl)))) hb2 (by first | (simp; done) | omega | (simp; omega))
  have g2 : Below w.heap.size w w2 := by refine Below.trans ?_ (hb2.mono ?_) <;> (repeat' (first | (with_reducible (first | exact Below.refl _ _ | assumption | refine below_drewN ?_ _ | refine Below.drew ?_ | refine Below.alloc ?_ ?_ _ | refine Below.setCell ?_ ?_ _)) | go_size))
  have hz2 := hb2.size
  (try simp at hz2)
  clear hb2
  replace cA := A2.cell
  replace fA := A2.frozen
  replace zA := A2.size
  go_wp2_with fail
  refine (meAdd_nil at_ b _).mono ?_
  rintro e w3 ⟨rfl, hb3⟩
  have A3 : Blk w3 (w.heap.size) #[.int .i64 kd, .int .u64 at_, .int .i64 b] 33 := Blk.below (by (repeat' (first | (with_reducible (first | assumption | exact Blk.alloc_new _ _ _ (by first | rfl | (simp; done) | omega) | apply Blk.drewN | apply Blk.drew | apply Blk.alloc_old | apply Blk.set_same | apply Blk.set_other)) | (show (_ : Nat) ≠ _; first | omega | (simp; done) | (simp; omega)) | ((simp only [List.setIfInBounds_toArray, List.set_cons_succ, List.set_cons_zero]); (with_reducible exact rfl)) | (with_reducible exact rfl) | (show (_ : Array Value) = _; exact rfl)))) hb3 (by first | (simp; done) | omega | (simp; omega))
  have g3 : Below w.heap.size w w3 := by refine Below.trans ?_ (hb3.mono ?_) <;> (repeat' (first | (with_reducible (first | exact Below.refl _ _ | assumption | refine below_drewN ?_ _ | refine Below.drew ?_ | refine Below.alloc ?_ ?_ _ | refine Below.setCell ?_ ?_ _)) | go_size))
  have hz3 := hb3.size
  (try simp at hz3)
  clear hb3
  replace cA := A3.cell
  replace fA := A3.frozen
  replace zA := A3.size
  go_wp2_with fail
  refine (eighty_true _).mono ?_
  rintro e w4 ⟨rfl, hb4⟩
  have g4 : Below w.heap.size w w4 := by refine Below.trans ?_ (hb4.mono ?_) <;> (repeat' (first | (with_reducible (first | exact Below.refl _ _ | assumption | refine below_drewN ?_ _ | refine Below.drew ?_ | refine Below.alloc ?_ ?_ _ | refine Below.setCell ?_ ?_ _)) | go_size))
  have hz4 := hb4.size
  (try simp at hz4)
  clear hb4
  go_wp2
  go_ret
  exact ⟨rfl, by (repeat' (first | (with_reducible (first | exact Below.refl _ _ | assumption | refine below_drewN ?_ _ | refine Below.drew ?_ | refine Below.alloc ?_ ?_ _ | refine Below.setCell ?_ ?_ _)) | go_size))⟩
theorem call47list3 {α : Type} {l : List α} (h : l.length = 3) : ∃ a0 a1 a2, l = [a0, a1, a2] := by
  match l, h with
  | [a0, a1, a2], _ => exact ⟨a0, a1, a2, rfl⟩
theorem cells_call47 {H : Type} {w : World} {base : Nat} {spare : Nat → Bool} {held : Bool} {enc : TypeId × Value → H} {fuel : Nat} {c0 c1 c2 : Value} {x : DataW H × List MemPlace} (hf : DataW.trod enc Try.prog w base spare held fuel 33 [c0, c1, c2] = some x) :
    ∃ (x0 : Int) (x1 : Int) (x2 : Int), [c0, c1, c2] = [.int .i64 x0, .int .u64 x1, .int .i64 x2] ∧ (-9223372036854775808 ≤ x0 ∧ x0 ≤ 9223372036854775807) ∧ (0 ≤ x1 ∧ x1 ≤ 18446744073709551615) ∧ (-9223372036854775808 ≤ x2 ∧ x2 ≤ 9223372036854775807) := by
  have k0 : Try.prog.cellsOf 33 = 3 := by kernel_rfl
  have k1 : Try.prog.cellsOf 3 = 1 := by kernel_rfl
  have k2 : Try.prog.cellsOf 22 = 1 := by kernel_rfl
  obtain ⟨ys0, m0, _, _, _, hl0, hx0⟩ := DataW.trod_struct Try.underlying33 hf
  obtain ⟨y0_0, y0_1, y0_2, rfl⟩ := call47list3 hl0
  have q0_0 := hx0 0 _ rfl
  have q0_1 := hx0 1 _ rfl
  have q0_2 := hx0 2 _ rfl
  simp [k1, k2] at q0_0 q0_1 q0_2
  obtain ⟨x0, e0, _, w0⟩ := DataW.trod_int Try.underlying3 q0_0
  obtain ⟨x1, e1, _, w1⟩ := DataW.trod_int Try.underlying22 q0_1
  obtain ⟨x2, e2, _, w2⟩ := DataW.trod_int Try.underlying3 q0_2
  simp at e0 e1 e2
  subst e0 e1 e2
  exact ⟨x0, x1, x2, rfl, bounds_i64 w0, bounds_u64 w1, bounds_i64 w2⟩
set_option maxRecDepth 100000 in
theorem open_call47 {H : Type} {w : World} {base : Nat} {spare : Nat → Bool} {held : Bool} {enc : TypeId × Value → H} {r : Reach} {b0 : Nat} {v : Value} {d : DataW H} {p : List MemPlace} (hv : Value.okWide Try.prog w r b0 33 v) (h : DataW.Trod enc Try.prog w base spare held 33 v d p) :
    ∃ (x0 : Int) (x1 : Int) (x2 : Int), v = .agg #[.int .i64 x0, .int .u64 x1, .int .i64 x2] ∧ (-9223372036854775808 ≤ x0 ∧ x0 ≤ 9223372036854775807) ∧ (0 ≤ x1 ∧ x1 ≤ 18446744073709551615) ∧ (-9223372036854775808 ≤ x2 ∧ x2 ≤ 9223372036854775807) := by
  obtain ⟨cs, rfl, hsz⟩ := okWide_struct Try.underlying33 hv
  obtain ⟨l⟩ := cs
  obtain ⟨c0, c1, c2, rfl⟩ := call47list3 (l := l) (hsz.trans (show Try.prog.cellsOf 33 = 3 by kernel_rfl))
  obtain ⟨fuel, hf⟩ := h
  obtain ⟨x0, x1, x2, e, bs⟩ := cells_call47 (x := (d, p)) (show DataW.trod enc Try.prog w base spare held fuel 33 [c0, c1, c2] = some (d, p) by simpa [Value.cells] using hf)
  simp at e
  obtain ⟨rfl, rfl, rfl⟩ := e
  exact ⟨x0, x1, x2, rfl, bs⟩
/-- Structs that came in: each one's cells. -/
def Rows_call47 (w : World) (a : Option Addr) (len : Nat) : Prop :=
  len = 0 ∨ ∃ b off, a = some ⟨b, off, none⟩ ∧ b < w.heap.size ∧ ∀ i, i < len → ∃ (x0 : Int) (x1 : Int) (x2 : Int), (-9223372036854775808 ≤ x0 ∧ x0 ≤ 9223372036854775807) ∧ (0 ≤ x1 ∧ x1 ≤ 18446744073709551615) ∧ (-9223372036854775808 ≤ x2 ∧ x2 ≤ 9223372036854775807) ∧ w.cell? ⟨b, off + i * 3, none⟩ = some (.int .i64 x0) ∧ w.cell? ⟨b, off + i * 3 + 1, none⟩ = some (.int .u64 x1) ∧ w.cell? ⟨b, off + i * 3 + 2, none⟩ = some (.int .i64 x2)
theorem call47_cell_lt {w : World} {b o : Nat} {v : Value} (h : w.cell? ⟨b, o, none⟩ = some v) : b < w.heap.size := by
  by_cases hb : b < w.heap.size
  · exact hb
  · simp [World.cell?, Array.getElem?_eq_none (show w.heap.size ≤ b by omega)] at h
theorem call47_cell_add {w : World} {b off : Nat} {n j : Nat} {v : Option Value} (h : w.cell? (((⟨b, off, none⟩ : Addr).add n).add j) = v) : w.cell? ⟨b, off + n + j, none⟩ = v := by
  rw [Go.Deep.add_add] at h
  unfold Addr.add at h
  by_cases h0 : n + j = 0
  · have e1 : n = 0 := by omega
    have e2 : j = 0 := by omega
    subst e1 e2; simpa using h
  · rw [if_neg h0] at h
    rw [show off + n + j = off + (n + j) by omega]; exact h
theorem open_call47s {H : Type} {w : World} {base : Nat} {spare : Nat → Bool} {held : Bool} {enc : TypeId × Value → H} {s : Option Addr} {len cap fuel : Nat} {x : DataW H × List MemPlace} (h : DataW.trod enc Try.prog w base spare held fuel 23 [.slice s len cap] = some x) : Rows_call47 w s len ∧ len ≤ maxLen := by
  rcases Go.Deep.open_slice Try.underlying23 h with ⟨hcs, _⟩ | ⟨a, len', cap', m, n, D, Pl, hcs, hb, hl, hm, hmm, hx, hi⟩
  · simp at hcs
    obtain ⟨rfl, rfl, rfl⟩ := hcs
    exact ⟨.inl rfl, by unfold maxLen; omega⟩
  · simp at hcs
    obtain ⟨rfl, rfl, rfl⟩ := hcs
    refine ⟨?_, by omega⟩
    by_cases h0 : len = 0
    · exact .inl h0
    right
    have hlm : len ≤ m := by rw [hmm]; split <;> omega
    have kN : Try.prog.cellsOf 33 = 3 := by kernel_rfl
    rw [kN] at hi
    have hall : ∀ i, i < len → ∃ (x0 : Int) (x1 : Int) (x2 : Int), (-9223372036854775808 ≤ x0 ∧ x0 ≤ 9223372036854775807) ∧ (0 ≤ x1 ∧ x1 ≤ 18446744073709551615) ∧ (-9223372036854775808 ≤ x2 ∧ x2 ≤ 9223372036854775807) ∧ ∀ j, j < 3 → w.cell? ((a.add (i * 3)).add j) = ([.int .i64 x0, .int .u64 x1, .int .i64 x2] : List Value)[j]? := by
      intro i hil
      obtain ⟨cs', hc, ht⟩ := hi i (by omega)
      obtain ⟨_, hlen, hat⟩ := World.cells?_some hc
      obtain ⟨c0, c1, c2, rfl⟩ := call47list3 hlen
      obtain ⟨x0, x1, x2, e, n0, n1, n2⟩ := cells_call47 ht
      rw [e] at hat
      exact ⟨x0, x1, x2, n0, n1, n2, hat⟩
    obtain ⟨b, off, spot⟩ := a
    obtain ⟨_, _, _, _, _, _, hc0⟩ := hall 0 (by omega)
    have hspot : spot = none := by
      have := hc0 0 (by omega)
      simpa [Addr.add] using World.cell?_spot (by simpa [Addr.add] using this)
    subst hspot
    refine ⟨b, off, rfl, call47_cell_lt (by have := call47_cell_add (hc0 0 (by omega)); simpa using this), fun i hil => ?_⟩
    obtain ⟨x0, x1, x2, n0, n1, n2, hc⟩ := hall i hil
    exact ⟨x0, x1, x2, n0, n1, n2, call47_cell_add (hc 0 (by omega)), call47_cell_add (hc 1 (by omega)), call47_cell_add (hc 2 (by omega))⟩
namespace meterNilDone
theorem own : ownKnob Try.prog.godebug = none := by kernel_rfl
theorem laidOut : laidOutB Try.prog = true := by kernel_rfl
set_option maxRecDepth 100000 in
theorem lifted (os : Os) (started : os.Started) (H : Type) (enc : TypeId × Value → H) :
    ReturnsInHanded {} Try.checked os 6 .any (Rows.meterNilSpec.pre6 enc Try.prog Try.f6 Rows.meterNilRow.domain false) (Rows.meterNilSpec.post enc Try.prog Try.f6 false true false false) := by
  refine returnsInHanded_of_change (C := Try.checked) own started (by kernel_rfl) Try.func6
    (ChangeSpec.witness6 (enc := enc) (C := Try.checked) false ⟨#[], #[.agg #[.int .i64 0, .int .u64 0, .int .i64 0]], []⟩ 8 (by kernel_rfl) (by kernel_rfl) (by kernel_rfl) (by kernel_rfl)) ?_
  intro W base args ds gs before hval0 hW hcnd _
  have hval : ∀ (j : Nat) t v, Try.f6.params[j]? = some t → args[j]? = some v → Value.okWide Try.prog W .any base t v := hval0
  have hW' := hW
  obtain ⟨p, q, hA0, hV, rfl, hfz, hnd⟩ := hW
  have hA : DataW.TrodAll enc Try.prog W 0 (fun _ => true) true Try.f6.params.toList args.toList ds p := hA0
  rw [Try.params6] at hA hval
  obtain ⟨v0, vs0, d0, ds0, p0, q0, hargs, rfl, rfl, h0, r0⟩ := trodAll_cons hA
  obtain ⟨rfl, rfl, rfl⟩ := trodAll_nil r0
  obtain rfl : args = #[v0] := by cases args; simp_all
  obtain ⟨rfl, rfl⟩ := trodVars_none hV
  have k0 := h0
  have lt0 : ∀ x ∈ p0, x.block < W.heap.size := by obtain ⟨m, hm⟩ := k0; exact DataW.trod_lt m _ _ _ hm
  obtain ⟨a0_0, a0_1, a0_2, rfl, b0_0, b0_1, b0_2⟩ := open_call47 (hval 0 33 v0 rfl rfl) h0
  clear hA0 hval0
  refine (MeterNil_walk a0_0 b0_0 a0_1 b0_1 a0_2 b0_2 W).mono fun e W' ⟨he, bel⟩ => ?_
  subst he
  exact ⟨_, rfl, _, _, _, [], _, [], hW', trodAll_mk1 (shut_bool Try.underlying4 _), (trodAll_cons_mk (Below.trod laidOut (by kernel_rfl) (of_decide_eq_true (by kernel_rfl)) k0 bel lt0) trodAll_mk0), rfl, bel.frame _, fun h => by cases h⟩
theorem over : Rows.meterNilRow.holds Try.pinned (OpenSpec.ofChange Rows.meterNilSpec) :=
  OpenClaim.holds_of_wide 6 Try.f6 rfl rfl rfl rfl rfl rfl rfl ⟨rfl, rfl, rfl, rfl, rfl⟩ rfl rfl rfl rfl rfl (by kernel_rfl) Try.func6 (by kernel_rfl)
    (of_decide_eq_true (by kernel_rfl)) (by unfold Func.isWrapper; first | (rw [if_pos (by decide +kernel)]; kernel_rfl) | (rw [if_neg (by decide +kernel)]; exact ⟨rfl, rfl⟩))
    (fun os started H enc _ => lifted os started H enc)
end meterNilDone
theorem MeterNil_holds : Rows.MeterNilSaid := meterNilDone.over

end Go.Proofs.Ytldahcfggeebgaa
