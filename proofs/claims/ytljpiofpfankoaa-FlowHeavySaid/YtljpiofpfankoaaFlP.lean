/-
  'floodgatelaw45.FlowNil' returns true for every input. Conditions: none.
-/
import Derived.Test.YtljpiofpfankoaaFlN
import Derived.Test.YtljpiofpfankoaaFrame
namespace Go.Proofs.Ytljpiofpfankoaa
open Go.RowKit Go.Sort Go.ChangeShapes Go.WideShapes Go.ChangeAt
set_option linter.unusedVariables false
set_option linter.unusedSimpArgs false
theorem seen45list2 {α : Type} {l : List α} (h : l.length = 2) : ∃ a0 a1, l = [a0, a1] := by
  match l, h with
  | [a0, a1], _ => exact ⟨a0, a1, rfl⟩
theorem seen45list4 {α : Type} {l : List α} (h : l.length = 4) : ∃ a0 a1 a2 a3, l = [a0, a1, a2, a3] := by
  match l, h with
  | [a0, a1, a2, a3], _ => exact ⟨a0, a1, a2, a3, rfl⟩
theorem seen45list5 {α : Type} {l : List α} (h : l.length = 5) : ∃ a0 a1 a2 a3 a4, l = [a0, a1, a2, a3, a4] := by
  match l, h with
  | [a0, a1, a2, a3, a4], _ => exact ⟨a0, a1, a2, a3, a4, rfl⟩
theorem cells_seen45 {H : Type} {w : World} {base : Nat} {spare : Nat → Bool} {held : Bool} {enc : TypeId × Value → H} {fuel : Nat} {c0 c1 c2 c3 c4 : Value} {x : DataW H × List MemPlace} (hf : DataW.trod enc Try.prog w base spare held fuel 80 [c0, c1, c2, c3, c4] = some x) :
    ∃ (x0 : Int) (x1 : Int) (x2 : Int) (x3 : Int) (x4 : Int), [c0, c1, c2, c3, c4] = [.int .u16 x0, .int .u16 x1, .int .u16 x2, .int .u16 x3, .int .i64 x4] ∧ (0 ≤ x0 ∧ x0 ≤ 65535) ∧ (0 ≤ x1 ∧ x1 ≤ 65535) ∧ (0 ≤ x2 ∧ x2 ≤ 65535) ∧ (0 ≤ x3 ∧ x3 ≤ 65535) ∧ (-9223372036854775808 ≤ x4 ∧ x4 ≤ 9223372036854775807) := by
  have k0 : Try.prog.cellsOf 80 = 5 := by kernel_rfl
  have k1 : Try.prog.cellsOf 48 = 4 := by kernel_rfl
  have k2 : Try.prog.cellsOf 46 = 1 := by kernel_rfl
  have k3 : Try.prog.cellsOf 3 = 1 := by kernel_rfl
  obtain ⟨ys0, m0, _, _, _, hl0, hx0⟩ := DataW.trod_struct Try.underlying80 hf
  obtain ⟨y0_0, y0_1, rfl⟩ := seen45list2 hl0
  have q0_0 := hx0 0 _ rfl
  have q0_1 := hx0 1 _ rfl
  simp [k1, k3] at q0_0 q0_1
  obtain ⟨ys1, m1, _, _, _, hl1, hx1⟩ := DataW.trod_array Try.underlying48 q0_0
  obtain ⟨y1_0, y1_1, y1_2, y1_3, rfl⟩ := seen45list4 hl1
  have q1_0 := hx1 0 (by simp)
  have q1_1 := hx1 1 (by simp)
  have q1_2 := hx1 2 (by simp)
  have q1_3 := hx1 3 (by simp)
  simp [k2] at q1_0 q1_1 q1_2 q1_3
  obtain ⟨x0, e0, _, w0⟩ := DataW.trod_int Try.underlying46 q1_0
  obtain ⟨x1, e1, _, w1⟩ := DataW.trod_int Try.underlying46 q1_1
  obtain ⟨x2, e2, _, w2⟩ := DataW.trod_int Try.underlying46 q1_2
  obtain ⟨x3, e3, _, w3⟩ := DataW.trod_int Try.underlying46 q1_3
  obtain ⟨x4, e4, _, w4⟩ := DataW.trod_int Try.underlying3 q0_1
  simp at e0 e1 e2 e3 e4
  subst e0 e1 e2 e3 e4
  exact ⟨x0, x1, x2, x3, x4, rfl, bounds_u16 w0, bounds_u16 w1, bounds_u16 w2, bounds_u16 w3, bounds_i64 w4⟩
set_option maxRecDepth 100000 in
theorem open_seen45 {H : Type} {w : World} {base : Nat} {spare : Nat → Bool} {held : Bool} {enc : TypeId × Value → H} {r : Reach} {b0 : Nat} {v : Value} {d : DataW H} {p : List MemPlace} (hv : Value.okWide Try.prog w r b0 80 v) (h : DataW.Trod enc Try.prog w base spare held 80 v d p) :
    ∃ (x0 : Int) (x1 : Int) (x2 : Int) (x3 : Int) (x4 : Int), v = .agg #[.int .u16 x0, .int .u16 x1, .int .u16 x2, .int .u16 x3, .int .i64 x4] ∧ (0 ≤ x0 ∧ x0 ≤ 65535) ∧ (0 ≤ x1 ∧ x1 ≤ 65535) ∧ (0 ≤ x2 ∧ x2 ≤ 65535) ∧ (0 ≤ x3 ∧ x3 ≤ 65535) ∧ (-9223372036854775808 ≤ x4 ∧ x4 ≤ 9223372036854775807) := by
  obtain ⟨cs, rfl, hsz⟩ := okWide_struct Try.underlying80 hv
  obtain ⟨l⟩ := cs
  obtain ⟨c0, c1, c2, c3, c4, rfl⟩ := seen45list5 (l := l) (hsz.trans (show Try.prog.cellsOf 80 = 5 by kernel_rfl))
  obtain ⟨fuel, hf⟩ := h
  obtain ⟨x0, x1, x2, x3, x4, e, bs⟩ := cells_seen45 (x := (d, p)) (show DataW.trod enc Try.prog w base spare held fuel 80 [c0, c1, c2, c3, c4] = some (d, p) by simpa [Value.cells] using hf)
  simp at e
  obtain ⟨rfl, rfl, rfl, rfl, rfl⟩ := e
  exact ⟨x0, x1, x2, x3, x4, rfl, bs⟩
theorem feqIn (d : Nat) (x y : Int) (k : K4) (v : World) : (Op.equalIn (d + 4) 88 (.agg #[.int .u16 k.a, .int .u16 k.b, .int .u16 k.c, .int .u16 k.d, .int .u64 x, .int .u64 y]) (.agg #[.int .u16 k.a, .int .u16 k.b, .int .u16 k.c, .int .u16 k.d, .int .u64 x, .int .u64 y])).run Try.prog v = .ok true v := by
  have a1 : ∀ w, (isAgg 43).run Try.prog w = .ok false w := fun _ => by kernel_rfl
  have a3 : ∀ w, (isAgg 48).run Try.prog w = .ok true w := fun _ => by kernel_rfl
  have s1 : ∀ w, (sizeOf 43).run Try.prog w = .ok 1 w := fun _ => by kernel_rfl
  have s3 : ∀ w, (sizeOf 48).run Try.prog w = .ok 4 w := fun _ => by kernel_rfl
  have e1 := fun w x y => u64_cell (d + 2) w x y
  have e3 := fun w => eqkIn (d + 1) k k w
  simp only [decide_true] at e3
  rw [run_equalIn_struct _ (d + 3) 88 _ _ (by kernel_rfl) (by kernel_rfl)]
  simp [Program.fieldsOf, Try.underlying88, go_sem, part, a1, a3, s1, s3, e1, e3]
theorem feq (x y : Int) (k : K4) (v : World) : (binOp .eql 88 (.agg #[.int .u16 k.a, .int .u16 k.b, .int .u16 k.c, .int .u16 k.d, .int .u64 x, .int .u64 y]) (.agg #[.int .u16 k.a, .int .u16 k.b, .int .u16 k.c, .int .u16 k.d, .int .u64 x, .int .u64 y])).run Try.prog v = .ok (.bool true) v := by
  rw [run_eql_struct, feqIn 9996 x y k]; rfl
theorem nAdd (k : K4) (n : Int) (w : World) : Calls Try.prog 33 #[.pointer none, .agg #[.int .u16 k.a, .int .u16 k.b, .int .u16 k.c, .int .u16 k.d], .int .i64 n] w fun e w' => e = .returned (.int .i64 7) ∧ Below w.heap.size w w' := by
  go_enter Try.func33, Try.ntmps33
  go_wp2
  go_ret
  exact ⟨rfl, by (repeat' (first | (with_reducible (first | exact Below.refl _ _ | assumption | refine below_drewN ?_ _ | refine Below.drew ?_ | refine Below.alloc ?_ ?_ _ | refine Below.setCell ?_ ?_ _)) | go_size))⟩
theorem nLen (w : World) : Calls Try.prog 36 #[.pointer none] w fun e w' => e = .returned (.int .i64 0) ∧ Below w.heap.size w w' := by
  go_enter Try.func36, Try.ntmps36
  go_wp2
  go_ret
  exact ⟨rfl, by (repeat' (first | (with_reducible (first | exact Below.refl _ _ | assumption | refine below_drewN ?_ _ | refine Below.drew ?_ | refine Below.alloc ?_ ?_ _ | refine Below.setCell ?_ ?_ _)) | go_size))⟩
theorem nHeavy (n : Int) (w : World) : Calls Try.prog 35 #[.pointer none, .int .i64 n] w fun e w' => e = .returned (.slice none 0 0) ∧ Below w.heap.size w w' := by
  go_enter Try.func35, Try.ntmps35
  go_wp2
  go_ret
  exact ⟨rfl, by (repeat' (first | (with_reducible (first | exact Below.refl _ _ | assumption | refine below_drewN ?_ _ | refine Below.drew ?_ | refine Below.alloc ?_ ?_ _ | refine Below.setCell ?_ ?_ _)) | go_size))⟩
set_option maxRecDepth 100000 in
theorem nGet (k : K4) (w : World) : Calls Try.prog 40 #[.pointer none, .agg #[.int .u16 k.a, .int .u16 k.b, .int .u16 k.c, .int .u16 k.d]] w fun e w' => e = .returned (.agg #[.int .u16 k.a, .int .u16 k.b, .int .u16 k.c, .int .u16 k.d, .int .u64 0, .int .u64 0]) ∧ Below w.heap.size w w' := by
  go_enter Try.func40, Try.ntmps40
  go_upto_region 2 with (fail)
  refine wp_forget (fun v => Below w.heap.size w v ∧ Blk v (w.heap.size) #[.int .u16 k.a, .int .u16 k.b, .int .u16 k.c, .int .u16 k.d] 48 ∧ Blk v (w.heap.size + 1) #[.int .u16 0, .int .u16 0, .int .u16 0, .int .u16 0, .int .u64 0, .int .u64 0] 88 ∧ Blk v (w.heap.size + 1 + 1) #[.int .u16 k.a, .int .u16 k.b, .int .u16 k.c, .int .u16 k.d, .int .u64 0, .int .u64 0] 88) ⟨by (repeat' (first | (with_reducible (first | exact Below.refl _ _ | assumption | refine below_drewN ?_ _ | refine Below.drew ?_ | refine Below.alloc ?_ ?_ _ | refine Below.setCell ?_ ?_ _)) | go_size)), by (repeat' (first | (with_reducible (first | assumption | exact Blk.alloc_new _ _ _ (by first | rfl | (simp; done) | omega) | apply Blk.drewN | apply Blk.drew | apply Blk.alloc_old | apply Blk.set_same | apply Blk.set_other)) | (show (_ : Nat) ≠ _; first | omega | (simp; done) | (simp; omega)) | ((simp only [List.setIfInBounds_toArray, List.set_cons_succ, List.set_cons_zero]); (with_reducible exact rfl)) | (with_reducible exact rfl) | (show (_ : Array Value) = _; exact rfl))), by (repeat' (first | (with_reducible (first | assumption | exact Blk.alloc_new _ _ _ (by first | rfl | (simp; done) | omega) | apply Blk.drewN | apply Blk.drew | apply Blk.alloc_old | apply Blk.set_same | apply Blk.set_other)) | (show (_ : Nat) ≠ _; first | omega | (simp; done) | (simp; omega)) | ((simp only [List.setIfInBounds_toArray, List.set_cons_succ, List.set_cons_zero]); (with_reducible exact rfl)) | (with_reducible exact rfl) | (show (_ : Array Value) = _; exact rfl))), by (repeat' (first | (with_reducible (first | assumption | exact Blk.alloc_new _ _ _ (by first | rfl | (simp; done) | omega) | apply Blk.drewN | apply Blk.drew | apply Blk.alloc_old | apply Blk.set_same | apply Blk.set_other)) | (show (_ : Nat) ≠ _; first | omega | (simp; done) | (simp; omega)) | ((simp only [List.setIfInBounds_toArray, List.set_cons_succ, List.set_cons_zero]); (with_reducible exact rfl)) | (with_reducible exact rfl) | (show (_ : Array Value) = _; exact rfl)))⟩ ?_
  rintro w1 ⟨g1, A1, R1, X1⟩
  have hz1 := g1.size
  have cA := A1.cell
  have fA := A1.frozen
  have zA := A1.size
  have cR := R1.cell
  have fR := R1.frozen
  have zR := R1.size
  have cX := X1.cell
  have fX := X1.frozen
  have zX := X1.size
  go_wp2_with (first | (refine store_blk 88 (.tmp 4) (.tmp 23) (w.heap.size + 1) #[.int .u16 0, .int .u16 0, .int .u16 0, .int .u16 0, .int .u64 0, .int .u64 0] #[.int .u16 k.a, .int .u16 k.b, .int .u16 k.c, .int .u16 k.d, .int .u64 0, .int .u64 0] 88 (by rfl) (by rfl) (by rfl) (by rfl) (by (repeat' (first | (with_reducible (first | assumption | exact Blk.alloc_new _ _ _ (by first | rfl | (simp; done) | omega) | apply Blk.drewN | apply Blk.drew | apply Blk.alloc_old | apply Blk.set_same | apply Blk.set_other)) | (show (_ : Nat) ≠ _; first | omega | (simp; done) | (simp; omega)) | ((simp only [List.setIfInBounds_toArray, List.set_cons_succ, List.set_cons_zero]); (with_reducible exact rfl)) | (with_reducible exact rfl) | (show (_ : Array Value) = _; exact rfl)))) rfl (by kernel_rfl) (by simp [Value.oneCell']) ?_; intro v Bv kB kO hs; have gv : Below w.heap.size w v := kB _ _ (by first | (simp; done) | omega | (simp; omega)) (by (repeat' (first | (with_reducible (first | exact Below.refl _ _ | assumption | refine below_drewN ?_ _ | refine Below.drew ?_ | refine Below.alloc ?_ ?_ _ | refine Below.setCell ?_ ?_ _)) | go_size))); clear kB kO hs))
  refine bodyPost_ret (v := .agg #[.int .u16 k.a, .int .u16 k.b, .int .u16 k.c, .int .u16 k.d, .int .u64 0, .int .u64 0]) ?_ ?_ ?_
  · exact results_blk (w.heap.size + 1) #[.int .u16 k.a, .int .u16 k.b, .int .u16 k.c, .int .u16 k.d, .int .u64 0, .int .u64 0] 88 _ _ _ Try.results40 (by rfl) Bv Try.underlying88 rfl (by kernel_rfl)
  · rfl
  · exact ⟨rfl, gv⟩
set_option maxRecDepth 100000 in
set_option maxHeartbeats 4000000 in
theorem FlowNil_all (k : K4) (b n : Int) (hb : -9223372036854775808 ≤ b ∧ b ≤ 9223372036854775807) (hn : -9223372036854775808 ≤ n ∧ n ≤ 9223372036854775807) (w : World) :
    Calls Try.prog 11 #[.agg #[.int .u16 k.a, .int .u16 k.b, .int .u16 k.c, .int .u16 k.d, .int .i64 b], .int .i64 n] w fun e w' => e = .returned (.bool true) ∧ Below w.heap.size w w' := by
  have q1 : ∀ v, (binOp .eql 88 (.agg #[.int .u16 k.a, .int .u16 k.b, .int .u16 k.c, .int .u16 k.d, .int .u64 0, .int .u64 0]) (.agg #[.int .u16 k.a, .int .u16 k.b, .int .u16 k.c, .int .u16 k.d, .int .u64 0, .int .u64 0])).run Try.prog v = .ok (.bool true) v := feq 0 0 k
  go_enter Try.func11, Try.ntmps11
  go_upto_region 2 with (fail)
  refine wp_forget (fun v => Below w.heap.size w v ∧ Blk v (w.heap.size) #[.int .u16 k.a, .int .u16 k.b, .int .u16 k.c, .int .u16 k.d, .int .i64 b] 80) ⟨by (repeat' (first | (with_reducible (first | exact Below.refl _ _ | assumption | refine below_drewN ?_ _ | refine Below.drew ?_ | refine Below.alloc ?_ ?_ _ | refine Below.setCell ?_ ?_ _)) | go_size)), by (repeat' (first | (with_reducible (first | assumption | exact Blk.alloc_new _ _ _ (by first | rfl | (simp; done) | omega) | apply Blk.drewN | apply Blk.drew | apply Blk.alloc_old | apply Blk.set_same | apply Blk.set_other)) | (show (_ : Nat) ≠ _; first | omega | (simp; done) | (simp; omega)) | ((simp only [List.setIfInBounds_toArray, List.set_cons_succ, List.set_cons_zero]); (with_reducible exact rfl)) | (with_reducible exact rfl) | (show (_ : Array Value) = _; exact rfl)))⟩ ?_
  rintro v1 ⟨gv1, Sv1⟩
  have qS1 := blk_calm Sv1
  refine wp_region_quiet_below (by kernel_rfl) (by kernel_rfl) ?_
  repeat (go_big_quiet_step ((first
      | (go_at_call 33; (with_reducible exact Calls.regrown_of (nAdd k b _)))
      | (go_at_call 40; (with_reducible exact Calls.regrown_of (nGet k _)))
      | (go_at_call 35; (with_reducible exact Calls.regrown_of (nHeavy n _)))
      | (go_at_call 36; (with_reducible exact Calls.regrown_of (nLen _)))
      | (go_at_call 29; (with_reducible exact Calls.regrown_of (names_true _))))))
  refine wpQuiet_nil ?_
  intro _ hw'
  obtain ⟨pq, hw''⟩ := hw'
  subst hw''
  have hb1 := below_regrown v1 pq.d pq.os
  generalize Sort.grow (redrawn v1 pq.d) pq.os = w1 at *
  have S1 : Blk w1 (w.heap.size) #[.int .u16 k.a, .int .u16 k.b, .int .u16 k.c, .int .u16 k.d, .int .i64 b] 80 := Blk.below Sv1 hb1 Sv1.size
  have g1 : Below w.heap.size w w1 := gv1.trans (hb1.mono gv1.size)
  have hz1 : w.heap.size ≤ w1.heap.size := g1.size
  clear hb1 gv1 Sv1 qS1
  replace cS := S1.cell
  replace fS := S1.frozen
  replace zS := S1.size
  go_wp2
  go_ret
  exact ⟨rfl, by (repeat' (first | (with_reducible (first | exact Below.refl _ _ | assumption | refine below_drewN ?_ _ | refine Below.drew ?_ | refine Below.alloc ?_ ?_ _ | refine Below.setCell ?_ ?_ _)) | go_size))⟩
theorem FlowNil_walk (k0 : Int) (r0 : 0 ≤ k0 ∧ k0 ≤ 65535) (k1 : Int) (r1 : 0 ≤ k1 ∧ k1 ≤ 65535) (k2 : Int) (r2 : 0 ≤ k2 ∧ k2 ≤ 65535) (k3 : Int) (r3 : 0 ≤ k3 ∧ k3 ≤ 65535) (b : Int) (hb : -9223372036854775808 ≤ b ∧ b ≤ 9223372036854775807) (n : Int) (hn : -9223372036854775808 ≤ n ∧ n ≤ 9223372036854775807) (w : World) :
    Calls Try.prog 11 #[.agg #[.int .u16 k0, .int .u16 k1, .int .u16 k2, .int .u16 k3, .int .i64 b], .int .i64 n] w fun e w' => e = .returned (.bool true) ∧ Below w.heap.size w w' :=
  FlowNil_all ⟨k0, k1, k2, k3⟩ b n hb hn w
namespace flowNilDone
theorem own : ownKnob Try.prog.godebug = none := by kernel_rfl
theorem laidOut : laidOutB Try.prog = true := by kernel_rfl
set_option maxRecDepth 100000 in
theorem lifted (os : Os) (started : os.Started) (H : Type) (enc : TypeId × Value → H) :
    ReturnsInHanded {} Try.checked os 11 .any (Rows.flowNilSpec.pre6 enc Try.prog Try.f11 Rows.flowNilRow.domain false) (Rows.flowNilSpec.post enc Try.prog Try.f11 false true false false) := by
  refine returnsInHanded_of_change (C := Try.checked) own started (by kernel_rfl) Try.func11
    (ChangeSpec.witness6 (enc := enc) (C := Try.checked) false ⟨#[], #[.agg #[.int .u16 0, .int .u16 0, .int .u16 0, .int .u16 0, .int .i64 0], .int .i64 0], []⟩ 8 (by kernel_rfl) (by kernel_rfl) (by kernel_rfl) (by kernel_rfl)) ?_
  intro W base args ds gs before hval0 hW hcnd _
  have hval : ∀ (j : Nat) t v, Try.f11.params[j]? = some t → args[j]? = some v → Value.okWide Try.prog W .any base t v := hval0
  have hW' := hW
  obtain ⟨p, q, hA0, hV, rfl, hfz, hnd⟩ := hW
  have hA : DataW.TrodAll enc Try.prog W 0 (fun _ => true) true Try.f11.params.toList args.toList ds p := hA0
  rw [Try.params11] at hA hval
  obtain ⟨v0, vs0, d0, ds0, p0, q0, hargs, rfl, rfl, h0, r0⟩ := trodAll_cons hA
  obtain ⟨v1, vs1, d1, ds1, p1, q1, rfl, rfl, rfl, h1, r1⟩ := trodAll_cons r0
  obtain ⟨rfl, rfl, rfl⟩ := trodAll_nil r1
  obtain rfl : args = #[v0, v1] := by cases args; simp_all
  obtain ⟨rfl, rfl⟩ := trodVars_none hV
  have k0 := h0
  have lt0 : ∀ x ∈ p0, x.block < W.heap.size := by obtain ⟨m, hm⟩ := k0; exact DataW.trod_lt m _ _ _ hm
  obtain ⟨a0_0, a0_1, a0_2, a0_3, a0_4, rfl, b0_0, b0_1, b0_2, b0_3, b0_4⟩ := open_seen45 (hval 0 80 v0 rfl rfl) h0
  obtain ⟨a1, rfl, rfl, rfl, wf1⟩ := open_int Try.underlying3 (hval 1 3 v1 rfl rfl) h1
  have b1 := bounds_i64 wf1
  clear hA0 hval0
  refine (FlowNil_walk a0_0 b0_0 a0_1 b0_1 a0_2 b0_2 a0_3 b0_3 a0_4 b0_4 a1 b1 W).mono fun e W' ⟨he, bel⟩ => ?_
  subst he
  exact ⟨_, rfl, _, _, _, [], _, [], hW', trodAll_mk1 (shut_bool Try.underlying4 _), (trodAll_cons_mk (Below.trod laidOut (by kernel_rfl) (of_decide_eq_true (by kernel_rfl)) k0 bel lt0) (trodAll_cons_mk (shut_int Try.underlying3 wf1) trodAll_mk0)), rfl, bel.frame _, fun h => by cases h⟩
theorem over : Rows.flowNilRow.holds Try.pinned (OpenSpec.ofChange Rows.flowNilSpec) :=
  OpenClaim.holds_of_wide 11 Try.f11 rfl rfl rfl rfl rfl rfl rfl ⟨rfl, rfl, rfl, rfl, rfl⟩ rfl rfl rfl rfl rfl (by kernel_rfl) Try.func11 (by kernel_rfl)
    (of_decide_eq_true (by kernel_rfl)) (by unfold Func.isWrapper; first | (rw [if_pos (by decide +kernel)]; kernel_rfl) | (rw [if_neg (by decide +kernel)]; exact ⟨rfl, rfl⟩))
    (fun os started H enc _ => lifted os started H enc)
end flowNilDone
theorem FlowNil_holds : Rows.FlowNilSaid := flowNilDone.over

end Go.Proofs.Ytljpiofpfankoaa
