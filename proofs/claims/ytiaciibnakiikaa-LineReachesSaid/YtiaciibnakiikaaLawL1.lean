/-
  The statement LineTells: any line at any tick, when it is at least any amount, and which of two is the lower one. Conditions: none.
-/
import Derived.Test.YtiaciibnakiikaaLineT
import Derived.Test.YtiaciibnakiikaaFrame
namespace Go.Proofs.Ytiaciibnakiikaa
open Go.ChangeShapes Go.WideShapes Go.ChangeAt Go.RowKit
open Go.Sort
set_option linter.unusedVariables false
theorem linelist2 {α : Type} {l : List α} (h : l.length = 2) : ∃ a0 a1, l = [a0, a1] := by
  match l, h with
  | [a0, a1], _ => exact ⟨a0, a1, rfl⟩
theorem linelist3 {α : Type} {l : List α} (h : l.length = 3) : ∃ a0 a1 a2, l = [a0, a1, a2] := by
  match l, h with
  | [a0, a1, a2], _ => exact ⟨a0, a1, a2, rfl⟩
theorem linelist4 {α : Type} {l : List α} (h : l.length = 4) : ∃ a0 a1 a2 a3, l = [a0, a1, a2, a3] := by
  match l, h with
  | [a0, a1, a2, a3], _ => exact ⟨a0, a1, a2, a3, rfl⟩
theorem cells_line {H : Type} {w : World} {base : Nat} {spare : Nat → Bool} {held : Bool} {enc : TypeId × Value → H} {fuel : Nat} {c0 c1 c2 c3 : Value} {x : DataW H × List MemPlace} (hf : DataW.trod enc Try.prog w base spare held fuel 44 [c0, c1, c2, c3] = some x) :
    ∃ (x0 : Int) (x1 : Int) (x2 : Int) (x3 : Int), [c0, c1, c2, c3] = [.int .u64 x0, .int .u64 x1, .int .u64 x2, .int .u64 x3] ∧ (0 ≤ x0 ∧ x0 ≤ 18446744073709551615) ∧ (0 ≤ x1 ∧ x1 ≤ 18446744073709551615) ∧ (0 ≤ x2 ∧ x2 ≤ 18446744073709551615) ∧ (0 ≤ x3 ∧ x3 ≤ 18446744073709551615) := by
  have k0 : Try.prog.cellsOf 44 = 4 := by kernel_rfl
  have k1 : Try.prog.cellsOf 22 = 1 := by kernel_rfl
  have k2 : Try.prog.cellsOf 38 = 2 := by kernel_rfl
  obtain ⟨ys0, m0, _, _, _, hl0, hx0⟩ := DataW.trod_struct Try.underlying44 hf
  obtain ⟨y0_0, y0_1, y0_2, rfl⟩ := linelist3 hl0
  have q0_0 := hx0 0 _ rfl
  have q0_1 := hx0 1 _ rfl
  have q0_2 := hx0 2 _ rfl
  simp [k1, k2] at q0_0 q0_1 q0_2
  obtain ⟨x0, e0, _, w0⟩ := DataW.trod_int Try.underlying22 q0_0
  obtain ⟨ys1, m1, _, _, _, hl1, hx1⟩ := DataW.trod_struct Try.underlying38 q0_1
  obtain ⟨y1_0, y1_1, rfl⟩ := linelist2 hl1
  have q1_0 := hx1 0 _ rfl
  have q1_1 := hx1 1 _ rfl
  simp [k1] at q1_0 q1_1
  obtain ⟨x1, e1, _, w1⟩ := DataW.trod_int Try.underlying22 q1_0
  obtain ⟨x2, e2, _, w2⟩ := DataW.trod_int Try.underlying22 q1_1
  obtain ⟨x3, e3, _, w3⟩ := DataW.trod_int Try.underlying22 q0_2
  simp at e0 e1 e2 e3
  subst e0 e1 e2 e3
  exact ⟨x0, x1, x2, x3, rfl, bounds_u64 w0, bounds_u64 w1, bounds_u64 w2, bounds_u64 w3⟩
theorem open_line {H : Type} {w : World} {base : Nat} {spare : Nat → Bool} {held : Bool} {enc : TypeId × Value → H} {r : Reach} {b0 : Nat} {v : Value} {d : DataW H} {p : List MemPlace} (hv : Value.okWide Try.prog w r b0 44 v) (h : DataW.Trod enc Try.prog w base spare held 44 v d p) :
    ∃ (x0 : Int) (x1 : Int) (x2 : Int) (x3 : Int), v = .agg #[.int .u64 x0, .int .u64 x1, .int .u64 x2, .int .u64 x3] ∧ (0 ≤ x0 ∧ x0 ≤ 18446744073709551615) ∧ (0 ≤ x1 ∧ x1 ≤ 18446744073709551615) ∧ (0 ≤ x2 ∧ x2 ≤ 18446744073709551615) ∧ (0 ≤ x3 ∧ x3 ≤ 18446744073709551615) := by
  obtain ⟨cs, rfl, hsz⟩ := okWide_struct Try.underlying44 hv
  obtain ⟨l⟩ := cs
  obtain ⟨c0, c1, c2, c3, rfl⟩ := linelist4 (l := l) (hsz.trans (show Try.prog.cellsOf 44 = 4 by kernel_rfl))
  obtain ⟨fuel, hf⟩ := h
  obtain ⟨x0, x1, x2, x3, e, bs⟩ := cells_line (x := (d, p)) (show DataW.trod enc Try.prog w base spare held fuel 44 [c0, c1, c2, c3] = some (d, p) by simpa [Value.cells] using hf)
  simp at e
  obtain ⟨rfl, rfl, rfl, rfl⟩ := e
  exact ⟨x0, x1, x2, x3, rfl, bs⟩
theorem asked5list2 {α : Type} {l : List α} (h : l.length = 2) : ∃ a0 a1, l = [a0, a1] := by
  match l, h with
  | [a0, a1], _ => exact ⟨a0, a1, rfl⟩
theorem asked5list3 {α : Type} {l : List α} (h : l.length = 3) : ∃ a0 a1 a2, l = [a0, a1, a2] := by
  match l, h with
  | [a0, a1, a2], _ => exact ⟨a0, a1, a2, rfl⟩
theorem cells_asked5 {H : Type} {w : World} {base : Nat} {spare : Nat → Bool} {held : Bool} {enc : TypeId × Value → H} {fuel : Nat} {c0 c1 c2 : Value} {x : DataW H × List MemPlace} (hf : DataW.trod enc Try.prog w base spare held fuel 46 [c0, c1, c2] = some x) :
    ∃ (x0 : Int) (x1 : Int) (x2 : Int), [c0, c1, c2] = [.int .u64 x0, .int .u64 x1, .int .u64 x2] ∧ (0 ≤ x0 ∧ x0 ≤ 18446744073709551615) ∧ (0 ≤ x1 ∧ x1 ≤ 18446744073709551615) ∧ (0 ≤ x2 ∧ x2 ≤ 18446744073709551615) := by
  have k0 : Try.prog.cellsOf 46 = 3 := by kernel_rfl
  have k1 : Try.prog.cellsOf 22 = 1 := by kernel_rfl
  have k2 : Try.prog.cellsOf 38 = 2 := by kernel_rfl
  obtain ⟨ys0, m0, _, _, _, hl0, hx0⟩ := DataW.trod_struct Try.underlying46 hf
  obtain ⟨y0_0, y0_1, rfl⟩ := asked5list2 hl0
  have q0_0 := hx0 0 _ rfl
  have q0_1 := hx0 1 _ rfl
  simp [k1, k2] at q0_0 q0_1
  obtain ⟨x0, e0, _, w0⟩ := DataW.trod_int Try.underlying22 q0_0
  obtain ⟨ys1, m1, _, _, _, hl1, hx1⟩ := DataW.trod_struct Try.underlying38 q0_1
  obtain ⟨y1_0, y1_1, rfl⟩ := asked5list2 hl1
  have q1_0 := hx1 0 _ rfl
  have q1_1 := hx1 1 _ rfl
  simp [k1] at q1_0 q1_1
  obtain ⟨x1, e1, _, w1⟩ := DataW.trod_int Try.underlying22 q1_0
  obtain ⟨x2, e2, _, w2⟩ := DataW.trod_int Try.underlying22 q1_1
  simp at e0 e1 e2
  subst e0 e1 e2
  exact ⟨x0, x1, x2, rfl, bounds_u64 w0, bounds_u64 w1, bounds_u64 w2⟩
theorem open_asked5 {H : Type} {w : World} {base : Nat} {spare : Nat → Bool} {held : Bool} {enc : TypeId × Value → H} {r : Reach} {b0 : Nat} {v : Value} {d : DataW H} {p : List MemPlace} (hv : Value.okWide Try.prog w r b0 46 v) (h : DataW.Trod enc Try.prog w base spare held 46 v d p) :
    ∃ (x0 : Int) (x1 : Int) (x2 : Int), v = .agg #[.int .u64 x0, .int .u64 x1, .int .u64 x2] ∧ (0 ≤ x0 ∧ x0 ≤ 18446744073709551615) ∧ (0 ≤ x1 ∧ x1 ≤ 18446744073709551615) ∧ (0 ≤ x2 ∧ x2 ≤ 18446744073709551615) := by
  obtain ⟨cs, rfl, hsz⟩ := okWide_struct Try.underlying46 hv
  obtain ⟨l⟩ := cs
  obtain ⟨c0, c1, c2, rfl⟩ := asked5list3 (l := l) (hsz.trans (show Try.prog.cellsOf 46 = 3 by kernel_rfl))
  obtain ⟨fuel, hf⟩ := h
  obtain ⟨x0, x1, x2, e, bs⟩ := cells_asked5 (x := (d, p)) (show DataW.trod enc Try.prog w base spare held fuel 46 [c0, c1, c2] = some (d, p) by simpa [Value.cells] using hf)
  simp at e
  obtain ⟨rfl, rfl, rfl⟩ := e
  exact ⟨x0, x1, x2, rfl, bs⟩
set_option maxHeartbeats 2000000 in
theorem LT_main (Xa Ya Ma Xb Yb Mb x W s t X Y M : Int) (w : World) (hXa : 0 ≤ Xa ∧ Xa ≤ 18446744073709551615) (hYa : In128 Ya) (hMa : 0 ≤ Ma ∧ Ma ≤ 18446744073709551615) (hXb : 0 ≤ Xb ∧ Xb ≤ 18446744073709551615) (hYb : In128 Yb) (hMb : 0 ≤ Mb ∧ Mb ≤ 18446744073709551615) (hx : 0 ≤ x ∧ x ≤ 18446744073709551615) (hW : In128 W) (hs : la Xa Ya Ma x = s) (s1 : In128 s) (ht : lr Xa Ya Ma W = t) (hY : In128 Y)
    (hr : (lowB Xa Ya Ma Xb Yb Mb = true ∧ X = Xb ∧ Y = Yb ∧ M = Mb) ∨ (lowB Xa Ya Ma Xb Yb Mb = false ∧ X = Xa ∧ Y = Ya ∧ M = Ma)) :
    Calls Try.prog 6 #[lv Xa Ya Ma, lv Xb Yb Mb, .agg #[.int .u64 x, .int .u64 (hi W), .int .u64 (lo W)]] w fun e w' => e = .returned (.bool true) ∧ Below w.heap.size w w' := by
  have Hs := hide hs; have Ht := hide ht; have Hr := hide hr; clear hs ht hr
  have e1 := neq s s true s1 s1 (by simp)
  have e2 := rleq X Y M X Y M true hY hY (by simp)
  have e3 : (t == t) = true := by simp
  go_enter Try.func6, Try.ntmps6
  go_wp2_with fail
  refine wp_forget (fun v => Below w.heap.size w v ∧ Blk v (w.heap.size) #[.int .u64 Xa, .int .u64 (hi (Ya)), .int .u64 (lo (Ya)), .int .u64 Ma] 44 ∧ Blk v (w.heap.size + 1) #[.int .u64 Xb, .int .u64 (hi (Yb)), .int .u64 (lo (Yb)), .int .u64 Mb] 44 ∧ Blk v (w.heap.size + 1 + 1) #[.int .u64 x, .int .u64 (hi (W)), .int .u64 (lo (W))] 46) ⟨by (repeat' (first | (with_reducible exact Below.refl _ _) | (with_reducible assumption) | (with_reducible refine below_drewN ?_ _) | (with_reducible refine Below.drew ?_) | (with_reducible refine Below.alloc ?_ ?_ _) | (with_reducible refine Below.setCell ?_ ?_ _) | go_size)), by (repeat' (first | (with_reducible assumption) | (with_reducible exact Blk.alloc_new _ _ _ (by first | rfl | (simp; done) | omega)) | (with_reducible refine Blk.drewN ?_ _) | (with_reducible refine Blk.drew ?_) | (with_reducible refine Blk.alloc_old ?_ _) | (with_reducible apply Blk.set_same) | (with_reducible refine Blk.set_other ?_ (by first | omega | (simp; done) | (simp; omega)) _) | (exact rfl))), by (repeat' (first | (with_reducible assumption) | (with_reducible exact Blk.alloc_new _ _ _ (by first | rfl | (simp; done) | omega)) | (with_reducible refine Blk.drewN ?_ _) | (with_reducible refine Blk.drew ?_) | (with_reducible refine Blk.alloc_old ?_ _) | (with_reducible apply Blk.set_same) | (with_reducible refine Blk.set_other ?_ (by first | omega | (simp; done) | (simp; omega)) _) | (exact rfl))), by (repeat' (first | (with_reducible assumption) | (with_reducible exact Blk.alloc_new _ _ _ (by first | rfl | (simp; done) | omega)) | (with_reducible refine Blk.drewN ?_ _) | (with_reducible refine Blk.drew ?_) | (with_reducible refine Blk.alloc_old ?_ _) | (with_reducible apply Blk.set_same) | (with_reducible refine Blk.set_other ?_ (by first | omega | (simp; done) | (simp; omega)) _) | (exact rfl)))⟩ ?_
  rintro v1 ⟨gv1, Av1, Bv1, Qv1⟩
  have qA1 := blk_calm Av1
  have qB1 := blk_calm Bv1
  have qQ1 := blk_calm Qv1
  refine wp_region_quiet_below (by kernel_rfl) (by kernel_rfl) ?_
  repeat (go_big_quiet_step ((first
      | (go_at_call 26; (with_reducible exact Calls.regrown_of (lat Xa Ya Ma x s _ hXa hYa hMa hx Hs.out)))
      | (go_at_call 25; (with_reducible exact Calls.regrown_of (lnum s _ s1)))
      | (go_at_call 25; (with_reducible exact Calls.regrown_of (lnum W _ hW)))
      | (go_at_call 27; (with_reducible exact Calls.regrown_of (lineref Xa Ya Ma _ hYa)))
      | (go_at_call 27; (with_reducible exact Calls.regrown_of (lineref Xb Yb Mb _ hYb)))
      | (go_at_call 27; (with_reducible exact Calls.regrown_of (lineref X Y M _ hY)))
      | (go_at_call 28; (with_reducible exact Calls.regrown_of (rlat Xa Ya Ma x s _ hXa hYa hMa hx Hs.out)))
      | (go_at_call 29; (with_reducible exact Calls.regrown_of (lreach Xa Ya Ma W t _ hXa hYa hMa hW Ht.out)))
      | (go_at_call 30; (with_reducible exact Calls.regrown_of (rlreach Xa Ya Ma W t _ hXa hYa hMa hW Ht.out)))
      | (go_at_call 31; (with_reducible exact Calls.regrown_of (low_any Xa Ya Ma Xb Yb Mb X Y M _ hXa hYa hMa hXb hYb hMb Hr.out)))
      | (go_at_call 32; (with_reducible exact Calls.regrown_of (rlow_any Xa Ya Ma Xb Yb Mb X Y M _ hXa hYa hMa hXb hYb hMb Hr.out)))
      | (go_at_call 33; (with_reducible exact Calls.regrown_of (ten_true _))))))
  refine wpQuiet_nil ?_
  intro _ hw'
  obtain ⟨pq, hw''⟩ := hw'
  subst hw''
  have hb1 := below_regrown v1 pq.d pq.os
  generalize Sort.grow (redrawn v1 pq.d) pq.os = w1 at *
  have A1 : Blk w1 (w.heap.size) #[.int .u64 Xa, .int .u64 (hi (Ya)), .int .u64 (lo (Ya)), .int .u64 Ma] 44 := Blk.below Av1 hb1 Av1.size
  have B1 : Blk w1 (w.heap.size + 1) #[.int .u64 Xb, .int .u64 (hi (Yb)), .int .u64 (lo (Yb)), .int .u64 Mb] 44 := Blk.below Bv1 hb1 Bv1.size
  have Q1 : Blk w1 (w.heap.size + 1 + 1) #[.int .u64 x, .int .u64 (hi (W)), .int .u64 (lo (W))] 46 := Blk.below Qv1 hb1 Qv1.size
  have g1 : Below w.heap.size w w1 := gv1.trans (hb1.mono gv1.size)
  have hz1 : w.heap.size ≤ w1.heap.size := g1.size
  clear hb1 gv1 Av1 qA1 Bv1 qB1 Qv1 qQ1
  replace cA := A1.cell
  replace fA := A1.frozen
  replace zA := A1.size
  replace cB := B1.cell
  replace fB := B1.frozen
  replace zB := B1.size
  replace cQ := Q1.cell
  replace fQ := Q1.frozen
  replace zQ := Q1.size
  go_wp2
  go_ret
  exact ⟨rfl, by (repeat' (first | (with_reducible exact Below.refl _ _) | (with_reducible assumption) | (with_reducible refine below_drewN ?_ _) | (with_reducible refine Below.drew ?_) | (with_reducible refine Below.alloc ?_ ?_ _) | (with_reducible refine Below.setCell ?_ ?_ _) | go_size))⟩
theorem LineTells_walk (Xa : Int) (hXa : 0 ≤ Xa ∧ Xa ≤ 18446744073709551615) (a1 : Int) (h1 : 0 ≤ a1 ∧ a1 ≤ 18446744073709551615) (a2 : Int) (h2 : 0 ≤ a2 ∧ a2 ≤ 18446744073709551615) (Ma : Int) (hMa : 0 ≤ Ma ∧ Ma ≤ 18446744073709551615)
    (Xb : Int) (hXb : 0 ≤ Xb ∧ Xb ≤ 18446744073709551615) (b1 : Int) (k1 : 0 ≤ b1 ∧ b1 ≤ 18446744073709551615) (b2 : Int) (k2 : 0 ≤ b2 ∧ b2 ≤ 18446744073709551615) (Mb : Int) (hMb : 0 ≤ Mb ∧ Mb ≤ 18446744073709551615)
    (x : Int) (hx : 0 ≤ x ∧ x ≤ 18446744073709551615) (c1 : Int) (l1 : 0 ≤ c1 ∧ c1 ≤ 18446744073709551615) (c2 : Int) (l2 : 0 ≤ c2 ∧ c2 ≤ 18446744073709551615) (w : World) :
    Calls Try.prog 6 #[.agg #[.int .u64 Xa, .int .u64 a1, .int .u64 a2, .int .u64 Ma], .agg #[.int .u64 Xb, .int .u64 b1, .int .u64 b2, .int .u64 Mb], .agg #[.int .u64 x, .int .u64 c1, .int .u64 c2]] w fun e w' => e = .returned (.bool true) ∧ Below w.heap.size w w' := by
  obtain ⟨Ya, hYa, rfl, rfl⟩ := wv_of h1 h2
  obtain ⟨Yb, hYb, rfl, rfl⟩ := wv_of k1 k2
  obtain ⟨W, hW, rfl, rfl⟩ := wv_of l1 l2
  by_cases h : lowB Xa Ya Ma Xb Yb Mb = true
  · exact LT_main Xa Ya Ma Xb Yb Mb x W _ _ Xb Yb Mb w hXa hYa hMa hXb hYb hMb hx hW rfl (la_in hYa) rfl hYb (.inl ⟨h, rfl, rfl, rfl⟩)
  · exact LT_main Xa Ya Ma Xb Yb Mb x W _ _ Xa Ya Ma w hXa hYa hMa hXb hYb hMb hx hW rfl (la_in hYa) rfl hYa (.inr ⟨by simpa using h, rfl, rfl, rfl⟩)
namespace lineTellsDone
theorem own : ownKnob Try.prog.godebug = none := by kernel_rfl
theorem laidOut : laidOutB Try.prog = true := by kernel_rfl
set_option maxRecDepth 100000 in
theorem lifted (os : Os) (started : os.Started) (H : Type) (enc : TypeId × Value → H) :
    ReturnsInHanded {} Try.checked os 6 .any (Rows.lineTellsSpec.pre6 enc Try.prog Try.f6 Rows.lineTellsRow.domain false) (Rows.lineTellsSpec.post enc Try.prog Try.f6 false true false false) := by
  refine returnsInHanded_of_change (C := Try.checked) own started (by kernel_rfl) Try.func6
    (ChangeSpec.witness6 (enc := enc) (C := Try.checked) false ⟨#[], #[.agg #[.int .u64 0, .int .u64 0, .int .u64 0, .int .u64 0], .agg #[.int .u64 0, .int .u64 0, .int .u64 0, .int .u64 0], .agg #[.int .u64 0, .int .u64 0, .int .u64 0]], []⟩ 8 (by kernel_rfl) (by kernel_rfl) (by kernel_rfl) (by kernel_rfl)) ?_
  intro W base args ds gs before hval0 hW hcnd _
  have hval : ∀ (j : Nat) t v, Try.f6.params[j]? = some t → args[j]? = some v → Value.okWide Try.prog W .any base t v := hval0
  have hW' := hW
  obtain ⟨p, q, hA0, hV, rfl, hfz, hnd⟩ := hW
  have hA : DataW.TrodAll enc Try.prog W 0 (fun _ => true) true Try.f6.params.toList args.toList ds p := hA0
  rw [Try.params6] at hA hval
  obtain ⟨v0, vs0, d0, ds0, p0, q0, hargs, rfl, rfl, h0, r0⟩ := trodAll_cons hA
  obtain ⟨v1, vs1, d1, ds1, p1, q1, rfl, rfl, rfl, h1, r1⟩ := trodAll_cons r0
  obtain ⟨v2, vs2, d2, ds2, p2, q2, rfl, rfl, rfl, h2, r2⟩ := trodAll_cons r1
  obtain ⟨rfl, rfl, rfl⟩ := trodAll_nil r2
  obtain rfl : args = #[v0, v1, v2] := by cases args; simp_all
  obtain ⟨rfl, rfl⟩ := trodVars_none hV
  have k0 := h0
  have lt0 : ∀ x ∈ p0, x.block < W.heap.size := by obtain ⟨m, hm⟩ := k0; exact DataW.trod_lt m _ _ _ hm
  obtain ⟨a0_0, a0_1, a0_2, a0_3, rfl, b0_0, b0_1, b0_2, b0_3⟩ := open_line (hval 0 44 v0 rfl rfl) h0
  have k1 := h1
  have lt1 : ∀ x ∈ p1, x.block < W.heap.size := by obtain ⟨m, hm⟩ := k1; exact DataW.trod_lt m _ _ _ hm
  obtain ⟨a1_0, a1_1, a1_2, a1_3, rfl, b1_0, b1_1, b1_2, b1_3⟩ := open_line (hval 1 44 v1 rfl rfl) h1
  have k2 := h2
  have lt2 : ∀ x ∈ p2, x.block < W.heap.size := by obtain ⟨m, hm⟩ := k2; exact DataW.trod_lt m _ _ _ hm
  obtain ⟨a2_0, a2_1, a2_2, rfl, b2_0, b2_1, b2_2⟩ := open_asked5 (hval 2 46 v2 rfl rfl) h2
  clear hA0 hval0
  refine (LineTells_walk a0_0 b0_0 a0_1 b0_1 a0_2 b0_2 a0_3 b0_3 a1_0 b1_0 a1_1 b1_1 a1_2 b1_2 a1_3 b1_3 a2_0 b2_0 a2_1 b2_1 a2_2 b2_2 W).mono fun e W' ⟨he, bel⟩ => ?_
  subst he
  exact ⟨_, rfl, _, _, _, [], _, [], hW', trodAll_mk1 (shut_bool Try.underlying4 _), (trodAll_cons_mk (Below.trod laidOut (by kernel_rfl) (of_decide_eq_true (by kernel_rfl)) k0 bel lt0) (trodAll_cons_mk (Below.trod laidOut (by kernel_rfl) (of_decide_eq_true (by kernel_rfl)) k1 bel lt1) (trodAll_cons_mk (Below.trod laidOut (by kernel_rfl) (of_decide_eq_true (by kernel_rfl)) k2 bel lt2) trodAll_mk0))), rfl, bel.frame _, fun h => by cases h⟩
theorem over : Rows.lineTellsRow.holds Try.pinned (OpenSpec.ofChange Rows.lineTellsSpec) :=
  OpenClaim.holds_of_wide 6 Try.f6 rfl rfl rfl rfl rfl rfl rfl ⟨rfl, rfl, rfl, rfl, rfl⟩ rfl rfl rfl rfl rfl (by kernel_rfl) Try.func6 (by kernel_rfl)
    (of_decide_eq_true (by kernel_rfl)) (by unfold Func.isWrapper; first | (rw [if_pos (by decide +kernel)]; kernel_rfl) | (rw [if_neg (by decide +kernel)]; exact ⟨rfl, rfl⟩))
    (fun os started H enc _ => lifted os started H enc)
end lineTellsDone
theorem LineTells_holds : Rows.LineTellsSaid := lineTellsDone.over

end Go.Proofs.Ytiaciibnakiikaa
