/-
  The statement MeterOf: the average of what was picked of any classes in any events, by any meter, or why there is none. Conditions: none.
-/
import Derived.Test.YtldahcfggeebgaaMeterP
namespace Go.Proofs.Ytldahcfggeebgaa
open Go.ChangeShapes Go.WideShapes Go.ChangeAt Go.RowKit
set_option linter.unusedVariables false
set_option linter.unusedSimpArgs false
theorem asked47list2 {α : Type} {l : List α} (h : l.length = 2) : ∃ a0 a1, l = [a0, a1] := by
  match l, h with
  | [a0, a1], _ => exact ⟨a0, a1, rfl⟩
theorem cells_asked47 {H : Type} {w : World} {base : Nat} {spare : Nat → Bool} {held : Bool} {enc : TypeId × Value → H} {fuel : Nat} {c0 c1 : Value} {x : DataW H × List MemPlace} (hf : DataW.trod enc Try.prog w base spare held fuel 49 [c0, c1] = some x) :
    ∃ (x0 : Int) (x1 : Int), [c0, c1] = [.int .u64 x0, .int .i64 x1] ∧ (0 ≤ x0 ∧ x0 ≤ 18446744073709551615) ∧ (-9223372036854775808 ≤ x1 ∧ x1 ≤ 9223372036854775807) := by
  have k0 : Try.prog.cellsOf 49 = 2 := by kernel_rfl
  have k1 : Try.prog.cellsOf 22 = 1 := by kernel_rfl
  have k2 : Try.prog.cellsOf 3 = 1 := by kernel_rfl
  obtain ⟨ys0, m0, _, _, _, hl0, hx0⟩ := DataW.trod_struct Try.underlying49 hf
  obtain ⟨y0_0, y0_1, rfl⟩ := asked47list2 hl0
  have q0_0 := hx0 0 _ rfl
  have q0_1 := hx0 1 _ rfl
  simp [k1, k2] at q0_0 q0_1
  obtain ⟨x0, e0, _, w0⟩ := DataW.trod_int Try.underlying22 q0_0
  obtain ⟨x1, e1, _, w1⟩ := DataW.trod_int Try.underlying3 q0_1
  simp at e0 e1
  subst e0 e1
  exact ⟨x0, x1, rfl, bounds_u64 w0, bounds_i64 w1⟩
set_option maxRecDepth 100000 in
theorem open_asked47 {H : Type} {w : World} {base : Nat} {spare : Nat → Bool} {held : Bool} {enc : TypeId × Value → H} {r : Reach} {b0 : Nat} {v : Value} {d : DataW H} {p : List MemPlace} (hv : Value.okWide Try.prog w r b0 49 v) (h : DataW.Trod enc Try.prog w base spare held 49 v d p) :
    ∃ (x0 : Int) (x1 : Int), v = .agg #[.int .u64 x0, .int .i64 x1] ∧ (0 ≤ x0 ∧ x0 ≤ 18446744073709551615) ∧ (-9223372036854775808 ≤ x1 ∧ x1 ≤ 9223372036854775807) := by
  obtain ⟨cs, rfl, hsz⟩ := okWide_struct Try.underlying49 hv
  obtain ⟨l⟩ := cs
  obtain ⟨c0, c1, rfl⟩ := asked47list2 (l := l) (hsz.trans (show Try.prog.cellsOf 49 = 2 by kernel_rfl))
  obtain ⟨fuel, hf⟩ := h
  obtain ⟨x0, x1, e, bs⟩ := cells_asked47 (x := (d, p)) (show DataW.trod enc Try.prog w base spare held fuel 49 [c0, c1] = some (d, p) by simpa [Value.cells] using hf)
  simp at e
  obtain ⟨rfl, rfl⟩ := e
  exact ⟨x0, x1, rfl, bs⟩
theorem Rows_event.below {w w' : World} {a : Option Addr} {len : Nat} (h : Rows_event w a len) (hb : Below w.heap.size w w') : Rows_event w' a len := by
  rcases h with h | ⟨b, off, rfl, hB, hc⟩
  · exact .inl h
  · refine .inr ⟨b, off, rfl, Nat.lt_of_lt_of_le hB hb.size, fun i hi => ?_⟩
    have cc : ∀ o, w'.cell? ⟨b, o, none⟩ = w.cell? ⟨b, o, none⟩ := fun o => hb.cell (p := ⟨b, o, none⟩) hB
    simp only [cc]
    exact hc i hi
theorem MeterOf_out (a0 : Option Addr) (len cap : Nat) (a1 : Option Addr) (ln1 cap1 : Nat) (zs : List Int) (wd s : Int) (w : World) (h : 200 < len ∨ 100 < ln1) :
    Calls Try.prog 7 #[.slice a0 len cap, .slice a1 ln1 cap1, .agg #[.int .u64 wd, .int .i64 s]] w fun e w' => e = .returned (.bool true) ∧ Below w.heap.size w w' := by
  by_cases a1 : 200 < len
  · have d1 : decide ((200 : Int) < (len : Int)) = true := decide_eq_true (by omega)
    go_enter Try.func7, Try.ntmps7
    go_wp2_with fail
    refine (eighty_true _).mono ?_
    rintro e w1 ⟨rfl, hb1⟩
    have g1 : Below w.heap.size w w1 := by refine Below.trans ?_ (hb1.mono ?_) <;> (repeat' (first | (with_reducible (first | exact Below.refl _ _ | assumption | refine below_drewN ?_ _ | refine Below.drew ?_ | refine Below.alloc ?_ ?_ _ | refine Below.setCell ?_ ?_ _)) | go_size))
    have hz1 := hb1.size
    (try simp at hz1)
    clear hb1
    go_wp2
    go_ret
    exact ⟨rfl, by (repeat' (first | (with_reducible (first | exact Below.refl _ _ | assumption | refine below_drewN ?_ _ | refine Below.drew ?_ | refine Below.alloc ?_ ?_ _ | refine Below.setCell ?_ ?_ _)) | go_size))⟩
  · have d1 : decide ((200 : Int) < (len : Int)) = false := decide_eq_false (by omega)
    have d2 : decide ((100 : Int) < (ln1 : Int)) = true := decide_eq_true (by omega)
    go_enter Try.func7, Try.ntmps7
    go_wp2_with fail
    refine (eighty_true _).mono ?_
    rintro e w1 ⟨rfl, hb1⟩
    have g1 : Below w.heap.size w w1 := by refine Below.trans ?_ (hb1.mono ?_) <;> (repeat' (first | (with_reducible (first | exact Below.refl _ _ | assumption | refine below_drewN ?_ _ | refine Below.drew ?_ | refine Below.alloc ?_ ?_ _ | refine Below.setCell ?_ ?_ _)) | go_size))
    have hz1 := hb1.size
    (try simp at hz1)
    clear hb1
    go_wp2
    go_ret
    exact ⟨rfl, by (repeat' (first | (with_reducible (first | exact Below.refl _ _ | assumption | refine below_drewN ?_ _ | refine Below.drew ?_ | refine Below.alloc ?_ ?_ _ | refine Below.setCell ?_ ?_ _)) | go_size))⟩
theorem MeterOf_bad (a0 : Option Addr) (len cap : Nat) (a1 : Option Addr) (ln1 cap1 : Nat) (zs : List Int) (wd s : Int) (w : World) (hl : len ≤ 200) (hl1 : ln1 ≤ 100) (h : ¬ (1 ≤ wd ∧ wd ≤ 4294967296 ∧ 0 ≤ s ∧ s ≤ 8)) :
    Calls Try.prog 7 #[.slice a0 len cap, .slice a1 ln1 cap1, .agg #[.int .u64 wd, .int .i64 s]] w fun e w' => e = .returned (.bool true) ∧ Below w.heap.size w w' := by
  have d1 : decide ((200 : Int) < (len : Int)) = false := decide_eq_false (by omega)
  have d2 : decide ((100 : Int) < (ln1 : Int)) = false := decide_eq_false (by omega)
  go_enter Try.func7, Try.ntmps7
  go_wp2_with fail
  refine (mOf_bad a0 len cap a1 ln1 cap1 wd s _ h).mono ?_
  rintro e w1 ⟨rfl, hb1⟩
  have A1 : Blk w1 (w.heap.size) #[.int .u64 wd, .int .i64 s] 49 := Blk.below (by (repeat' (first | (with_reducible (first | assumption | exact Blk.alloc_new _ _ _ (by first | rfl | (simp; done) | omega) | apply Blk.drewN | apply Blk.drew | apply Blk.alloc_old | apply Blk.set_same | apply Blk.set_other)) | (show (_ : Nat) ≠ _; first | omega | (simp; done) | (simp; omega)) | ((simp only [List.setIfInBounds_toArray, List.set_cons_succ, List.set_cons_zero]); (with_reducible exact rfl)) | (with_reducible exact rfl) | (show (_ : Array Value) = _; exact rfl)))) hb1 (by first | (simp; done) | omega | (simp; omega))
  have g1 : Below w.heap.size w w1 := by refine Below.trans ?_ (hb1.mono ?_) <;> (repeat' (first | (with_reducible (first | exact Below.refl _ _ | assumption | refine below_drewN ?_ _ | refine Below.drew ?_ | refine Below.alloc ?_ ?_ _ | refine Below.setCell ?_ ?_ _)) | go_size))
  have hz1 := hb1.size
  (try simp at hz1)
  clear hb1
  replace cA := A1.cell
  replace fA := A1.frozen
  replace zA := A1.size
  go_wp2_with fail
  refine (rMay wd s false _ (decide_eq_false h)).mono ?_
  rintro e u2 ⟨rfl, rfl⟩
  go_wp2_with fail
  refine (eighty_true _).mono ?_
  rintro e w3 ⟨rfl, hb3⟩
  have g3 : Below w.heap.size w w3 := by refine Below.trans ?_ (hb3.mono ?_) <;> (repeat' (first | (with_reducible (first | exact Below.refl _ _ | assumption | refine below_drewN ?_ _ | refine Below.drew ?_ | refine Below.alloc ?_ ?_ _ | refine Below.setCell ?_ ?_ _)) | go_size))
  have hz3 := hb3.size
  (try simp at hz3)
  clear hb3
  go_wp2
  go_ret
  exact ⟨rfl, by (repeat' (first | (with_reducible (first | exact Below.refl _ _ | assumption | refine below_drewN ?_ _ | refine Below.drew ?_ | refine Below.alloc ?_ ?_ _ | refine Below.setCell ?_ ?_ _)) | go_size))⟩
theorem MeterOf_main (a0 : Option Addr) (len cap : Nat) (a1 : Option Addr) (ln1 cap1 : Nat) (zs : List Int) (wd s : Int) (w : World) (h1 : 1 ≤ wd ∧ wd ≤ 4294967296) (h2 : 0 ≤ s ∧ s ≤ 8) (hl : len ≤ 200) (hl1 : ln1 ≤ 100) (hr : Rows_event w a0 len) (hz : RowI w a1 ln1 zs) (hm1 : ln1 ≤ maxLen) :
    Calls Try.prog 7 #[.slice a0 len cap, .slice a1 ln1 cap1, .agg #[.int .u64 wd, .int .i64 s]] w fun e w' => e = .returned (.bool true) ∧ Below w.heap.size w w' := by
  obtain ⟨E, hE0⟩ : ∃ E : Nat → Bool × Int × Int, ∀ v, Below w.heap.size w v → Hid (∀ k, k < len → ∀ b off, a0 = some ⟨b, off, none⟩ → ∀ x1 x3 x5 x7, v.cell? ⟨b, off + k * 12 + 1, none⟩ = some (.bool x1) → v.cell? ⟨b, off + k * 12 + 3, none⟩ = some (.int .u64 x3) → v.cell? ⟨b, off + k * 12 + 5, none⟩ = some (.int .i64 x5) → v.cell? ⟨b, off + k * 12 + 7, none⟩ = some (.int .i64 x7) → E k = (x1 || !decide (x5 ∈ zs), x3, x7)) := by
    rcases hr with h | ⟨b, off, rfl, hB, _⟩
    · exact ⟨fun _ => (false, 0, 0), fun v hb k hk => by omega⟩
    · refine ⟨evE w b off zs, fun v hb k hk b' off' he x1 x3 x5 x7 e1 e3 e5 e7 => ?_⟩
      simp at he
      obtain ⟨rfl, rfl⟩ := he
      have cc : ∀ o, v.cell? ⟨b, o, none⟩ = w.cell? ⟨b, o, none⟩ := fun o => hb.cell (p := ⟨b, o, none⟩) hB
      rw [cc] at e1 e3 e5 e7
      simp [evE, e1, e3, e5, e7, boolOf, intOf]
  obtain ⟨⟨V, X⟩, hof⟩ : ∃ p : Int × Int, ofRun wd s E len 0 0 0 0 0 = p := ⟨_, rfl⟩
  have Hof := hide hof; clear hof
  have HE := hide hE0; clear hE0
  have Hr := hide hr; have Hz := hide hz; clear hr hz
  have d1 : decide ((200 : Int) < (len : Int)) = false := decide_eq_false (by omega)
  have d2 : decide ((100 : Int) < (ln1 : Int)) = false := decide_eq_false (by omega)
  go_enter Try.func7, Try.ntmps7
  go_wp2_with fail
  refine (mOf a0 len cap a1 ln1 cap1 zs wd s E V X _ h1 h2 hl (Hr.out.below (by (repeat' (first | (with_reducible (first | exact Below.refl _ _ | assumption | refine below_drewN ?_ _ | refine Below.drew ?_ | refine Below.alloc ?_ ?_ _ | refine Below.setCell ?_ ?_ _)) | go_size)))) (Hz.out.below (by (repeat' (first | (with_reducible (first | exact Below.refl _ _ | assumption | refine below_drewN ?_ _ | refine Below.drew ?_ | refine Below.alloc ?_ ?_ _ | refine Below.setCell ?_ ?_ _)) | go_size)))) hm1 (HE.out _ (by (repeat' (first | (with_reducible (first | exact Below.refl _ _ | assumption | refine below_drewN ?_ _ | refine Below.drew ?_ | refine Below.alloc ?_ ?_ _ | refine Below.setCell ?_ ?_ _)) | go_size)))) Hof).mono ?_
  rintro e w1 ⟨rfl, hb1⟩
  have A1 : Blk w1 (w.heap.size) #[.int .u64 wd, .int .i64 s] 49 := Blk.below (by (repeat' (first | (with_reducible (first | assumption | exact Blk.alloc_new _ _ _ (by first | rfl | (simp; done) | omega) | apply Blk.drewN | apply Blk.drew | apply Blk.alloc_old | apply Blk.set_same | apply Blk.set_other)) | (show (_ : Nat) ≠ _; first | omega | (simp; done) | (simp; omega)) | ((simp only [List.setIfInBounds_toArray, List.set_cons_succ, List.set_cons_zero]); (with_reducible exact rfl)) | (with_reducible exact rfl) | (show (_ : Array Value) = _; exact rfl)))) hb1 (by first | (simp; done) | omega | (simp; omega))
  have g1 : Below w.heap.size w w1 := by refine Below.trans ?_ (hb1.mono ?_) <;> (repeat' (first | (with_reducible (first | exact Below.refl _ _ | assumption | refine below_drewN ?_ _ | refine Below.drew ?_ | refine Below.alloc ?_ ?_ _ | refine Below.setCell ?_ ?_ _)) | go_size))
  have hz1 := hb1.size
  (try simp at hz1)
  clear hb1
  replace cA := A1.cell
  replace fA := A1.frozen
  replace zA := A1.size
  go_wp2_with fail
  refine (rMay wd s true _ (decide_eq_true ⟨h1.1, h1.2, h2.1, h2.2⟩)).mono ?_
  rintro e u2 ⟨rfl, rfl⟩
  go_wp2_with fail
  refine (rmOf a0 len cap a1 ln1 cap1 zs wd s E V X _ h1 h2 hl (Hr.out.below (by (repeat' (first | (with_reducible (first | exact Below.refl _ _ | assumption | refine below_drewN ?_ _ | refine Below.drew ?_ | refine Below.alloc ?_ ?_ _ | refine Below.setCell ?_ ?_ _)) | go_size)))) (Hz.out.below (by (repeat' (first | (with_reducible (first | exact Below.refl _ _ | assumption | refine below_drewN ?_ _ | refine Below.drew ?_ | refine Below.alloc ?_ ?_ _ | refine Below.setCell ?_ ?_ _)) | go_size)))) hm1 (HE.out _ (by (repeat' (first | (with_reducible (first | exact Below.refl _ _ | assumption | refine below_drewN ?_ _ | refine Below.drew ?_ | refine Below.alloc ?_ ?_ _ | refine Below.setCell ?_ ?_ _)) | go_size)))) Hof).mono ?_
  rintro e w3 ⟨rfl, hb3⟩
  have A3 : Blk w3 (w.heap.size) #[.int .u64 wd, .int .i64 s] 49 := Blk.below (by (repeat' (first | (with_reducible (first | assumption | exact Blk.alloc_new _ _ _ (by first | rfl | (simp; done) | omega) | apply Blk.drewN | apply Blk.drew | apply Blk.alloc_old | apply Blk.set_same | apply Blk.set_other)) | (show (_ : Nat) ≠ _; first | omega | (simp; done) | (simp; omega)) | ((simp only [List.setIfInBounds_toArray, List.set_cons_succ, List.set_cons_zero]); (with_reducible exact rfl)) | (with_reducible exact rfl) | (show (_ : Array Value) = _; exact rfl)))) hb3 (by first | (simp; done) | omega | (simp; omega))
  have g3 : Below w.heap.size w w3 := by refine Below.trans ?_ (hb3.mono ?_) <;> (repeat' (first | (with_reducible (first | exact Below.refl _ _ | assumption | refine below_drewN ?_ _ | refine Below.drew ?_ | refine Below.alloc ?_ ?_ _ | refine Below.setCell ?_ ?_ _)) | go_size))
  have hz3 := hb3.size
  (try simp at hz3)
  clear hb3
  replace cA := A3.cell
  replace fA := A3.frozen
  replace zA := A3.size
  go_wp2_with fail
  refine (eighty_true _).mono ?_
  rintro e w4 ⟨rfl, hb4⟩
  have g4 : Below w.heap.size w w4 := by refine Below.trans ?_ (hb4.mono ?_) <;> (repeat' (first | (with_reducible (first | exact Below.refl _ _ | assumption | refine below_drewN ?_ _ | refine Below.drew ?_ | refine Below.alloc ?_ ?_ _ | refine Below.setCell ?_ ?_ _)) | go_size))
  have hz4 := hb4.size
  (try simp at hz4)
  clear hb4
  go_wp2
  go_ret
  exact ⟨rfl, by (repeat' (first | (with_reducible (first | exact Below.refl _ _ | assumption | refine below_drewN ?_ _ | refine Below.drew ?_ | refine Below.alloc ?_ ?_ _ | refine Below.setCell ?_ ?_ _)) | go_size))⟩
theorem MeterOf_walk (a0 : Option Addr) (len cap : Nat) (a1 : Option Addr) (ln1 cap1 : Nat) (zs : List Int) (wd : Int) (hwd : 0 ≤ wd ∧ wd ≤ 18446744073709551615) (s : Int) (hs : -9223372036854775808 ≤ s ∧ s ≤ 9223372036854775807) (w : World) (h : Rows_event w a0 len ∧ len ≤ maxLen) (hz : IsRow .i64 w a1 ln1 cap1 zs) :
    Calls Try.prog 7 #[.slice a0 len cap, .slice a1 ln1 cap1, .agg #[.int .u64 wd, .int .i64 s]] w fun e w' => e = .returned (.bool true) ∧ Below w.heap.size w w' := by
  by_cases hh : 200 < len ∨ 100 < ln1
  · exact MeterOf_out a0 len cap a1 ln1 cap1 zs wd s w hh
  · by_cases hg : 1 ≤ wd ∧ wd ≤ 4294967296 ∧ 0 ≤ s ∧ s ≤ 8
    · obtain ⟨k1, k2, _⟩ := rowi_of hz
      exact MeterOf_main a0 len cap a1 ln1 cap1 _ wd s w ⟨hg.1, hg.2.1⟩ hg.2.2 (by omega) (by omega) h.1 k1 k2
    · exact MeterOf_bad a0 len cap a1 ln1 cap1 zs wd s w (by omega) (by omega) hg
namespace meterOfDone
theorem own : ownKnob Try.prog.godebug = none := by kernel_rfl
theorem laidOut : laidOutB Try.prog = true := by kernel_rfl
set_option maxRecDepth 100000 in
theorem lifted (os : Os) (started : os.Started) (H : Type) (enc : TypeId × Value → H) :
    ReturnsInHanded {} Try.checked os 7 .any (Rows.meterOfSpec.pre6 enc Try.prog Try.f7 Rows.meterOfRow.domain false) (Rows.meterOfSpec.post enc Try.prog Try.f7 false true false false) := by
  refine returnsInHanded_of_change (C := Try.checked) own started (by kernel_rfl) Try.func7
    (ChangeSpec.witness6 (enc := enc) (C := Try.checked) false ⟨#[], #[.slice none 0 0, .slice none 0 0, .agg #[.int .u64 0, .int .i64 0]], []⟩ 8 (by kernel_rfl) (by kernel_rfl) (by kernel_rfl) (by kernel_rfl)) ?_
  intro W base args ds gs before hval0 hW hcnd _
  have hval : ∀ (j : Nat) t v, Try.f7.params[j]? = some t → args[j]? = some v → Value.okWide Try.prog W .any base t v := hval0
  have hW' := hW
  obtain ⟨p, q, hA0, hV, rfl, hfz, hnd⟩ := hW
  have hA : DataW.TrodAll enc Try.prog W 0 (fun _ => true) true Try.f7.params.toList args.toList ds p := hA0
  rw [Try.params7] at hA hval
  obtain ⟨v0, vs0, d0, ds0, p0, q0, hargs, rfl, rfl, h0, r0⟩ := trodAll_cons hA
  obtain ⟨v1, vs1, d1, ds1, p1, q1, rfl, rfl, rfl, h1, r1⟩ := trodAll_cons r0
  obtain ⟨v2, vs2, d2, ds2, p2, q2, rfl, rfl, rfl, h2, r2⟩ := trodAll_cons r1
  obtain ⟨rfl, rfl, rfl⟩ := trodAll_nil r2
  obtain rfl : args = #[v0, v1, v2] := by cases args; simp_all
  obtain ⟨rfl, rfl⟩ := trodVars_none hV
  obtain ⟨s0, len0, cap0, rfl⟩ := okWide_slice Try.underlying46 (hval 0 46 v0 rfl rfl)
  have k0 := h0
  have lt0 : ∀ x ∈ p0, x.block < W.heap.size := by obtain ⟨m, hm⟩ := k0; exact DataW.trod_lt m _ _ _ hm
  have w0 : Rows_event W s0 len0 ∧ len0 ≤ maxLen := by obtain ⟨fuel, hf⟩ := h0; exact open_events (by simpa [Value.cells] using hf)
  obtain ⟨s1, len1, cap1, rfl⟩ := okWide_slice Try.underlying47 (hval 1 47 v1 rfl rfl)
  have k1 := h1
  have lt1 : ∀ x ∈ p1, x.block < W.heap.size := by obtain ⟨m, hm⟩ := k1; exact DataW.trod_lt m _ _ _ hm
  obtain ⟨z1, w1⟩ : ∃ zs, IsRow .i64 W s1 len1 cap1 zs := by
    obtain ⟨fuel, hf⟩ := h1
    rcases open_ints Try.underlying47 Try.underlying3 (by kernel_rfl) hf with ⟨hcs, _⟩ | ⟨x, l, c, zs, hcs, _, hl, hm, hz, _, hcell, hwz⟩
    · simp [Value.cells] at hcs
      obtain ⟨rfl, rfl, rfl⟩ := hcs
      exact ⟨[], .inl ⟨rfl, rfl, rfl, rfl⟩⟩
    · simp [Value.cells] at hcs
      obtain ⟨rfl, rfl, rfl⟩ := hcs
      exact ⟨zs, .inr ⟨_, rfl, hl, hm, by simpa using hz, hcell, hwz⟩⟩
  have k2 := h2
  have lt2 : ∀ x ∈ p2, x.block < W.heap.size := by obtain ⟨m, hm⟩ := k2; exact DataW.trod_lt m _ _ _ hm
  obtain ⟨a2_0, a2_1, rfl, b2_0, b2_1⟩ := open_asked47 (hval 2 49 v2 rfl rfl) h2
  clear hA0 hval0
  refine (MeterOf_walk s0 len0 cap0 s1 len1 cap1 z1 a2_0 b2_0 a2_1 b2_1 W w0 w1).mono fun e W' ⟨he, bel⟩ => ?_
  subst he
  exact ⟨_, rfl, _, _, _, [], _, [], hW', trodAll_mk1 (shut_bool Try.underlying4 _), (trodAll_cons_mk (Below.trod laidOut (by kernel_rfl) (of_decide_eq_true (by kernel_rfl)) k0 bel lt0) (trodAll_cons_mk (Below.trod laidOut (by kernel_rfl) (of_decide_eq_true (by kernel_rfl)) k1 bel lt1) (trodAll_cons_mk (Below.trod laidOut (by kernel_rfl) (of_decide_eq_true (by kernel_rfl)) k2 bel lt2) trodAll_mk0))), rfl, bel.frame _, fun h => by cases h⟩
theorem over : Rows.meterOfRow.holds Try.pinned (OpenSpec.ofChange Rows.meterOfSpec) :=
  OpenClaim.holds_of_wide 7 Try.f7 rfl rfl rfl rfl rfl rfl rfl ⟨rfl, rfl, rfl, rfl, rfl⟩ rfl rfl rfl rfl rfl (by kernel_rfl) Try.func7 (by kernel_rfl)
    (of_decide_eq_true (by kernel_rfl)) (by unfold Func.isWrapper; first | (rw [if_pos (by decide +kernel)]; kernel_rfl) | (rw [if_neg (by decide +kernel)]; exact ⟨rfl, rfl⟩))
    (fun os started H enc _ => lifted os started H enc)
end meterOfDone
theorem MeterOf_holds : Rows.MeterOfSaid := meterOfDone.over

end Go.Proofs.Ytldahcfggeebgaa
