/-
  A class among its siblings as the reference has it, held against it; the closed example 'seven'. Conditions: fields in range.
-/
import Derived.Test.YtnkpoelljfbefaaShareW
import Derived.Laws.StructEq
namespace Go.Proofs.Ytnkpoelljfbefaa
open Go.RowKit Go.Sort
set_option linter.unusedVariables false
set_option linter.unusedSimpArgs false
theorem num21 (n : Int) (w : World) (hn : In128 n) :
    Calls Try.prog 52 #[wv n] w fun e w' => e = .returned (nv n) ∧ Below w.heap.size w w' := by
  go_enter Try.func52, Try.ntmps52
  have r1 := hi_rng n; have r2 := lo_rng n
  go_wp2_with fail
  refine (rTwo n _ hn).mono ?_
  rintro e w1 ⟨rfl, hb1⟩
  have hz1 := hb1.size
  (try simp at hz1)
  obtain ⟨hc1, hf1⟩ := bcell hb1
  try have z1 := Nat.lt_of_succ_le hz1
  have k1 : Below w.heap.size w w1 := by refine Below.trans ?_ (hb1.mono ?_) <;> (repeat' (first | (with_reducible (first | exact Below.refl _ _ | assumption | refine below_drewN ?_ _ | refine Below.drew ?_ | refine Below.alloc ?_ ?_ _ | refine Below.setCell ?_ ?_ _)) | go_size))
  have g1 := k1
  clear hb1 k1
  go_wp2
  refine bodyPost_ret (v := nv n) (by simp [results, Try.results52, go_sem, hc1]) rfl ⟨rfl, by (repeat' (first | (with_reducible (first | exact Below.refl _ _ | assumption | refine below_drewN ?_ _ | refine Below.drew ?_ | refine Below.alloc ?_ ?_ _ | refine Below.setCell ?_ ?_ _)) | go_size))⟩
set_option maxHeartbeats 1000000 in
theorem one21 (l : LN) (w : World) (h : l.ok) :
    Calls Try.prog 32 #[lnv l] w fun e w' => e = .returned (rlnv l) ∧ Below w.heap.size w w' := by
  have hY : In128 l.Y := h.2.1
  go_enter Try.func32, Try.ntmps32
  go_wp2_with fail
  refine wp_forget (fun v => Below w.heap.size w v ∧ Blk v (w.heap.size) #[.int .u64 l.X, .int .u64 (hi (l.Y)), .int .u64 (lo (l.Y)), .int .u64 l.M] 26 ∧ Blk v (w.heap.size + 1) #[.int .u64 0, .int .u64 0, .int .u64 0, .int .u64 0, .int .u64 0, .int .u64 0] 38) ⟨by (repeat' (first | (with_reducible (first | exact Below.refl _ _ | assumption | refine below_drewN ?_ _ | refine Below.drew ?_ | refine Below.alloc ?_ ?_ _ | refine Below.setCell ?_ ?_ _)) | go_size)), by (repeat' (first | (with_reducible (first | assumption | exact Blk.alloc_new _ _ _ (by first | rfl | (simp; done) | omega) | apply Blk.drewN | apply Blk.drew | apply Blk.alloc_old | apply Blk.set_same | apply Blk.set_other)) | (show (_ : Nat) ≠ _; first | omega | (simp; done) | (simp; omega)) | ((simp only [List.setIfInBounds_toArray, List.set_cons_succ, List.set_cons_zero]); (with_reducible exact rfl)) | (with_reducible exact rfl) | (show (_ : Array Value) = _; exact rfl))), by (repeat' (first | (with_reducible (first | assumption | exact Blk.alloc_new _ _ _ (by first | rfl | (simp; done) | omega) | apply Blk.drewN | apply Blk.drew | apply Blk.alloc_old | apply Blk.set_same | apply Blk.set_other)) | (show (_ : Nat) ≠ _; first | omega | (simp; done) | (simp; omega)) | ((simp only [List.setIfInBounds_toArray, List.set_cons_succ, List.set_cons_zero]); (with_reducible exact rfl)) | (with_reducible exact rfl) | (show (_ : Array Value) = _; exact rfl)))⟩ ?_
  rintro w0 ⟨g0, A0, R0⟩
  have hz0 := g0.size
  replace cA := A0.cell
  replace fA := A0.frozen
  replace zA := A0.size
  replace cR := R0.cell
  replace fR := R0.frozen
  replace zR := R0.size
  go_region_held3 (fun v => (∀ i, v.cell? ⟨w.heap.size, i, none⟩ = #[.int .u64 l.X, .int .u64 (hi (l.Y)), .int .u64 (lo (l.Y)), .int .u64 l.M][i]?) ∧ w.heap.size < v.heap.size ∧ Blk v (w.heap.size) #[.int .u64 l.X, .int .u64 (hi (l.Y)), .int .u64 (lo (l.Y)), .int .u64 l.M] 26 ∧ Below w.heap.size w v)
    (first
      | (refine ⟨?_, ?_, ?_, ?_⟩ <;> first | (with_reducible assumption) | ((repeat' (first | (with_reducible (first | assumption | exact Blk.alloc_new _ _ _ (by first | rfl | (simp; done) | omega) | apply Blk.drewN | apply Blk.drew | apply Blk.alloc_old | apply Blk.set_same | apply Blk.set_other)) | (show (_ : Nat) ≠ _; first | omega | (simp; done) | (simp; omega)) | ((simp only [List.setIfInBounds_toArray, List.set_cons_succ, List.set_cons_zero]); (with_reducible exact rfl)) | (with_reducible exact rfl) | (show (_ : Array Value) = _; exact rfl))); done) | ((repeat' (first | (with_reducible (first | exact Below.refl _ _ | assumption | refine below_drewN ?_ _ | refine Below.drew ?_ | refine Below.alloc ?_ ?_ _ | refine Below.setCell ?_ ?_ _)) | go_size)); done) | omega | (go_simp; done) | (simp; done) | (exact Blk.cell (by (repeat' (first | (with_reducible (first | assumption | exact Blk.alloc_new _ _ _ (by first | rfl | (simp; done) | omega) | apply Blk.drewN | apply Blk.drew | apply Blk.alloc_old | apply Blk.set_same | apply Blk.set_other)) | (show (_ : Nat) ≠ _; first | omega | (simp; done) | (simp; omega)) | ((simp only [List.setIfInBounds_toArray, List.set_cons_succ, List.set_cons_zero]); (with_reducible exact rfl)) | (with_reducible exact rfl) | (show (_ : Array Value) = _; exact rfl)))))))
    (first
      | (go_at_call 52; (with_reducible refine (num21 l.Y _ hY).mono ?_); rintro e w' ⟨rfl, hb'⟩; have hbx : Below w.heap.size w w' := (by refine Below.trans ?_ (Below.mono hb' ?_) <;> (repeat' (first | (with_reducible (first | exact Below.refl _ _ | assumption | refine below_drewN ?_ _ | refine Below.drew ?_ | refine Below.alloc ?_ ?_ _ | refine Below.setCell ?_ ?_ _)) | go_size))); have hbs := hb'.size; (try simp at hbs); have hkA : Blk w' (w.heap.size) #[.int .u64 l.X, .int .u64 (hi (l.Y)), .int .u64 (lo (l.Y)), .int .u64 l.M] 26 := Blk.below (by (repeat' (first | (with_reducible (first | assumption | exact Blk.alloc_new _ _ _ (by first | rfl | (simp; done) | omega) | apply Blk.drewN | apply Blk.drew | apply Blk.alloc_old | apply Blk.set_same | apply Blk.set_other)) | (show (_ : Nat) ≠ _; first | omega | (simp; done) | (simp; omega)) | ((simp only [List.setIfInBounds_toArray, List.set_cons_succ, List.set_cons_zero]); (with_reducible exact rfl)) | (with_reducible exact rfl) | (show (_ : Array Value) = _; exact rfl)))) hb' (by first | (simp; done) | omega | (simp; omega)); have hqA := hkA.cell; have hzA := hkA.size; have hkR : Blk w' (w.heap.size + 1) #[.int .u64 0, .int .u64 0, .int .u64 0, .int .u64 0, .int .u64 0, .int .u64 0] 38 := Blk.below (by (repeat' (first | (with_reducible (first | assumption | exact Blk.alloc_new _ _ _ (by first | rfl | (simp; done) | omega) | apply Blk.drewN | apply Blk.drew | apply Blk.alloc_old | apply Blk.set_same | apply Blk.set_other)) | (show (_ : Nat) ≠ _; first | omega | (simp; done) | (simp; omega)) | ((simp only [List.setIfInBounds_toArray, List.set_cons_succ, List.set_cons_zero]); (with_reducible exact rfl)) | (with_reducible exact rfl) | (show (_ : Array Value) = _; exact rfl)))) hb' (by first | (simp; done) | omega | (simp; omega)); have cR := hkR.cell; have fR := hkR.frozen; have zR := hkR.size; clear hb'))
  all_goals
    go_wp2
    refine bp_forget (fun v => Below w.heap.size w v ∧ Blk v (w.heap.size + 1) #[.int .u64 l.X, .int .u64 (dg0 (l.Y)), .int .u64 (dg1 (l.Y)), .int .u64 (dg2 (l.Y)), .int .u64 (dg3 (l.Y)), .int .u64 l.M] 38) ⟨by (repeat' (first | (with_reducible (first | exact Below.refl _ _ | assumption | refine below_drewN ?_ _ | refine Below.drew ?_ | refine Below.alloc ?_ ?_ _ | refine Below.setCell ?_ ?_ _)) | go_size)), by (repeat' (first | (with_reducible (first | assumption | exact Blk.alloc_new _ _ _ (by first | rfl | (simp; done) | omega) | apply Blk.drewN | apply Blk.drew | apply Blk.alloc_old | apply Blk.set_same | apply Blk.set_other)) | (show (_ : Nat) ≠ _; first | omega | (simp; done) | (simp; omega)) | ((simp only [List.setIfInBounds_toArray, List.set_cons_succ, List.set_cons_zero]); (with_reducible exact rfl)) | (with_reducible exact rfl) | (show (_ : Array Value) = _; exact rfl)))⟩ ?_
    rintro v ⟨gv, Bv⟩
    have cv := Bv.cell
    refine bodyPost_ret (v := rlnv l) (by simp [results, Try.results32, go_sem, cv]) rfl ⟨rfl, gv⟩
set_option maxRecDepth 100000 in
set_option maxHeartbeats 4000000 in
theorem ref21 (c : CH) (w : World) (h : c.r.ok) :
    Calls Try.prog 10 #[chv c] w fun e w' => e = .returned (rchv c) ∧ Below w.heap.size w w' := by
  have hf : c.r.f.ok := h.1; have ht : c.r.t.ok := h.2
  go_enter Try.func10, Try.ntmps10
  go_wp2_with fail
  refine wp_forget (fun v => Below w.heap.size w v ∧ Blk v (w.heap.size) #[.bool c.has, .int .u64 c.r.f.X, .int .u64 (hi (c.r.f.Y)), .int .u64 (lo (c.r.f.Y)), .int .u64 c.r.f.M, .int .u64 c.r.t.X, .int .u64 (hi (c.r.t.Y)), .int .u64 (lo (c.r.t.Y)), .int .u64 c.r.t.M, .bool c.r.b, .int .u64 c.t] 30 ∧ Blk v (w.heap.size + 1) #[.bool false, .int .u64 0, .int .u64 0, .int .u64 0, .int .u64 0, .int .u64 0, .int .u64 0, .int .u64 0, .int .u64 0, .int .u64 0, .int .u64 0, .int .u64 0, .int .u64 0, .bool false, .int .u64 0] 42) ⟨by (repeat' (first | (with_reducible (first | exact Below.refl _ _ | assumption | refine below_drewN ?_ _ | refine Below.drew ?_ | refine Below.alloc ?_ ?_ _ | refine Below.setCell ?_ ?_ _)) | go_size)), by (repeat' (first | (with_reducible (first | assumption | exact Blk.alloc_new _ _ _ (by first | rfl | (simp; done) | omega) | apply Blk.drewN | apply Blk.drew | apply Blk.alloc_old | apply Blk.set_same | apply Blk.set_other)) | (show (_ : Nat) ≠ _; first | omega | (simp; done) | (simp; omega)) | ((simp only [List.setIfInBounds_toArray, List.set_cons_succ, List.set_cons_zero]); (with_reducible exact rfl)) | (with_reducible exact rfl) | (show (_ : Array Value) = _; exact rfl))), by (repeat' (first | (with_reducible (first | assumption | exact Blk.alloc_new _ _ _ (by first | rfl | (simp; done) | omega) | apply Blk.drewN | apply Blk.drew | apply Blk.alloc_old | apply Blk.set_same | apply Blk.set_other)) | (show (_ : Nat) ≠ _; first | omega | (simp; done) | (simp; omega)) | ((simp only [List.setIfInBounds_toArray, List.set_cons_succ, List.set_cons_zero]); (with_reducible exact rfl)) | (with_reducible exact rfl) | (show (_ : Array Value) = _; exact rfl)))⟩ ?_
  rintro w0 ⟨g0, A0, R0⟩
  have hz0 := g0.size
  replace cA := A0.cell
  replace fA := A0.frozen
  replace zA := A0.size
  replace cR := R0.cell
  replace fR := R0.frozen
  replace zR := R0.size
  go_region_held3 (fun v => (∀ i, v.cell? ⟨w.heap.size, i, none⟩ = #[.bool c.has, .int .u64 c.r.f.X, .int .u64 (hi (c.r.f.Y)), .int .u64 (lo (c.r.f.Y)), .int .u64 c.r.f.M, .int .u64 c.r.t.X, .int .u64 (hi (c.r.t.Y)), .int .u64 (lo (c.r.t.Y)), .int .u64 c.r.t.M, .bool c.r.b, .int .u64 c.t][i]?) ∧ w.heap.size < v.heap.size ∧ Blk v (w.heap.size) #[.bool c.has, .int .u64 c.r.f.X, .int .u64 (hi (c.r.f.Y)), .int .u64 (lo (c.r.f.Y)), .int .u64 c.r.f.M, .int .u64 c.r.t.X, .int .u64 (hi (c.r.t.Y)), .int .u64 (lo (c.r.t.Y)), .int .u64 c.r.t.M, .bool c.r.b, .int .u64 c.t] 30 ∧ Below w.heap.size w v)
    (first
      | (refine ⟨?_, ?_, ?_, ?_⟩ <;> first | (with_reducible assumption) | ((repeat' (first | (with_reducible (first | assumption | exact Blk.alloc_new _ _ _ (by first | rfl | (simp; done) | omega) | apply Blk.drewN | apply Blk.drew | apply Blk.alloc_old | apply Blk.set_same | apply Blk.set_other)) | (show (_ : Nat) ≠ _; first | omega | (simp; done) | (simp; omega)) | ((simp only [List.setIfInBounds_toArray, List.set_cons_succ, List.set_cons_zero]); (with_reducible exact rfl)) | (with_reducible exact rfl) | (show (_ : Array Value) = _; exact rfl))); done) | ((repeat' (first | (with_reducible (first | exact Below.refl _ _ | assumption | refine below_drewN ?_ _ | refine Below.drew ?_ | refine Below.alloc ?_ ?_ _ | refine Below.setCell ?_ ?_ _)) | go_size)); done) | omega | (go_simp; done) | (simp; done) | (exact Blk.cell (by (repeat' (first | (with_reducible (first | assumption | exact Blk.alloc_new _ _ _ (by first | rfl | (simp; done) | omega) | apply Blk.drewN | apply Blk.drew | apply Blk.alloc_old | apply Blk.set_same | apply Blk.set_other)) | (show (_ : Nat) ≠ _; first | omega | (simp; done) | (simp; omega)) | ((simp only [List.setIfInBounds_toArray, List.set_cons_succ, List.set_cons_zero]); (with_reducible exact rfl)) | (with_reducible exact rfl) | (show (_ : Array Value) = _; exact rfl)))))))
    (first
      | (go_at_call 32; (with_reducible refine (one21 c.r.f _ hf).mono ?_); rintro e w' ⟨rfl, hb'⟩; have hbx : Below w.heap.size w w' := (by refine Below.trans ?_ (Below.mono hb' ?_) <;> (repeat' (first | (with_reducible (first | exact Below.refl _ _ | assumption | refine below_drewN ?_ _ | refine Below.drew ?_ | refine Below.alloc ?_ ?_ _ | refine Below.setCell ?_ ?_ _)) | go_size))); have hbs := hb'.size; (try simp at hbs); have hkA : Blk w' (w.heap.size) #[.bool c.has, .int .u64 c.r.f.X, .int .u64 (hi (c.r.f.Y)), .int .u64 (lo (c.r.f.Y)), .int .u64 c.r.f.M, .int .u64 c.r.t.X, .int .u64 (hi (c.r.t.Y)), .int .u64 (lo (c.r.t.Y)), .int .u64 c.r.t.M, .bool c.r.b, .int .u64 c.t] 30 := Blk.below (by (repeat' (first | (with_reducible (first | assumption | exact Blk.alloc_new _ _ _ (by first | rfl | (simp; done) | omega) | apply Blk.drewN | apply Blk.drew | apply Blk.alloc_old | apply Blk.set_same | apply Blk.set_other)) | (show (_ : Nat) ≠ _; first | omega | (simp; done) | (simp; omega)) | ((simp only [List.setIfInBounds_toArray, List.set_cons_succ, List.set_cons_zero]); (with_reducible exact rfl)) | (with_reducible exact rfl) | (show (_ : Array Value) = _; exact rfl)))) hb' (by first | (simp; done) | omega | (simp; omega)); have hqA := hkA.cell; have hzA := hkA.size; have hkR : Blk w' (w.heap.size + 1) #[.bool false, .int .u64 0, .int .u64 0, .int .u64 0, .int .u64 0, .int .u64 0, .int .u64 0, .int .u64 0, .int .u64 0, .int .u64 0, .int .u64 0, .int .u64 0, .int .u64 0, .bool false, .int .u64 0] 42 := Blk.below (by (repeat' (first | (with_reducible (first | assumption | exact Blk.alloc_new _ _ _ (by first | rfl | (simp; done) | omega) | apply Blk.drewN | apply Blk.drew | apply Blk.alloc_old | apply Blk.set_same | apply Blk.set_other)) | (show (_ : Nat) ≠ _; first | omega | (simp; done) | (simp; omega)) | ((simp only [List.setIfInBounds_toArray, List.set_cons_succ, List.set_cons_zero]); (with_reducible exact rfl)) | (with_reducible exact rfl) | (show (_ : Array Value) = _; exact rfl)))) hb' (by first | (simp; done) | omega | (simp; omega)); have cR := hkR.cell; have fR := hkR.frozen; have zR := hkR.size; clear hb')
      | (go_at_call 32; (with_reducible refine (one21 c.r.t _ ht).mono ?_); rintro e w' ⟨rfl, hb'⟩; have hbx : Below w.heap.size w w' := (by refine Below.trans ?_ (Below.mono hb' ?_) <;> (repeat' (first | (with_reducible (first | exact Below.refl _ _ | assumption | refine below_drewN ?_ _ | refine Below.drew ?_ | refine Below.alloc ?_ ?_ _ | refine Below.setCell ?_ ?_ _)) | go_size))); have hbs := hb'.size; (try simp at hbs); have hkA : Blk w' (w.heap.size) #[.bool c.has, .int .u64 c.r.f.X, .int .u64 (hi (c.r.f.Y)), .int .u64 (lo (c.r.f.Y)), .int .u64 c.r.f.M, .int .u64 c.r.t.X, .int .u64 (hi (c.r.t.Y)), .int .u64 (lo (c.r.t.Y)), .int .u64 c.r.t.M, .bool c.r.b, .int .u64 c.t] 30 := Blk.below (by (repeat' (first | (with_reducible (first | assumption | exact Blk.alloc_new _ _ _ (by first | rfl | (simp; done) | omega) | apply Blk.drewN | apply Blk.drew | apply Blk.alloc_old | apply Blk.set_same | apply Blk.set_other)) | (show (_ : Nat) ≠ _; first | omega | (simp; done) | (simp; omega)) | ((simp only [List.setIfInBounds_toArray, List.set_cons_succ, List.set_cons_zero]); (with_reducible exact rfl)) | (with_reducible exact rfl) | (show (_ : Array Value) = _; exact rfl)))) hb' (by first | (simp; done) | omega | (simp; omega)); have hqA := hkA.cell; have hzA := hkA.size; have hkR : Blk w' (w.heap.size + 1) #[.bool false, .int .u64 0, .int .u64 0, .int .u64 0, .int .u64 0, .int .u64 0, .int .u64 0, .int .u64 0, .int .u64 0, .int .u64 0, .int .u64 0, .int .u64 0, .int .u64 0, .bool false, .int .u64 0] 42 := Blk.below (by (repeat' (first | (with_reducible (first | assumption | exact Blk.alloc_new _ _ _ (by first | rfl | (simp; done) | omega) | apply Blk.drewN | apply Blk.drew | apply Blk.alloc_old | apply Blk.set_same | apply Blk.set_other)) | (show (_ : Nat) ≠ _; first | omega | (simp; done) | (simp; omega)) | ((simp only [List.setIfInBounds_toArray, List.set_cons_succ, List.set_cons_zero]); (with_reducible exact rfl)) | (with_reducible exact rfl) | (show (_ : Array Value) = _; exact rfl)))) hb' (by first | (simp; done) | omega | (simp; omega)); have cR := hkR.cell; have fR := hkR.frozen; have zR := hkR.size; clear hb'))
  all_goals
    go_wp2
    refine bp_forget (fun v => Below w.heap.size w v ∧ Blk v (w.heap.size + 1) #[.bool c.has, .int .u64 c.r.f.X, .int .u64 (dg0 (c.r.f.Y)), .int .u64 (dg1 (c.r.f.Y)), .int .u64 (dg2 (c.r.f.Y)), .int .u64 (dg3 (c.r.f.Y)), .int .u64 c.r.f.M, .int .u64 c.r.t.X, .int .u64 (dg0 (c.r.t.Y)), .int .u64 (dg1 (c.r.t.Y)), .int .u64 (dg2 (c.r.t.Y)), .int .u64 (dg3 (c.r.t.Y)), .int .u64 c.r.t.M, .bool c.r.b, .int .u64 c.t] 42) ⟨by (repeat' (first | (with_reducible (first | exact Below.refl _ _ | assumption | refine below_drewN ?_ _ | refine Below.drew ?_ | refine Below.alloc ?_ ?_ _ | refine Below.setCell ?_ ?_ _)) | go_size)), by (repeat' (first | (with_reducible (first | assumption | exact Blk.alloc_new _ _ _ (by first | rfl | (simp; done) | omega) | apply Blk.drewN | apply Blk.drew | apply Blk.alloc_old | apply Blk.set_same | apply Blk.set_other)) | (show (_ : Nat) ≠ _; first | omega | (simp; done) | (simp; omega)) | ((simp only [List.setIfInBounds_toArray, List.set_cons_succ, List.set_cons_zero]); (with_reducible exact rfl)) | (with_reducible exact rfl) | (show (_ : Array Value) = _; exact rfl)))⟩ ?_
    rintro v ⟨gv, Bv⟩
    have cv := Bv.cell
    refine bodyPost_ret (v := rchv c) (by simp [results, Try.results10, go_sem, cv]) rfl ⟨rfl, gv⟩
theorem eqb_run (k : Nat) (w : World) (x y : Bool) : (Op.equalIn (k + 1) 4 (.bool x) (.bool y)).run Try.prog w = .ok (x == y) w := by simp [Op.equalIn, Try.underlying4, go_sem]
theorem equ_run (k : Nat) (w : World) (x y : Int) : (Op.equalIn (k + 1) 22 (.int .u64 x) (.int .u64 y)).run Try.prog w = .ok (x == y) w := by simp [Op.equalIn, Try.underlying22, go_sem]
theorem rcheqIn (d : Nat) (c : CH) (h : c.r.ok) (v : World) : (Op.equalIn (d + 5) 42 (rchv c) (rchv c)).run Try.prog v = .ok true v := by
  have hb : ∀ w, (isAgg 4).run Try.prog w = .ok false w := fun _ => by kernel_rfl
  have hu : ∀ w, (isAgg 22).run Try.prog w = .ok false w := fun _ => by kernel_rfl
  have hl : ∀ w, (isAgg 40).run Try.prog w = .ok true w := fun _ => by kernel_rfl
  have h2 := fun w x y => eqb_run (d + 3) w x y
  have h3 := fun w x y => equ_run (d + 3) w x y
  have h4 := fun w => rreqIn d c.r h w
  have hs : ∀ w, (sizeOf 4).run Try.prog w = .ok 1 w := fun _ => by kernel_rfl
  have hs1 : ∀ w, (sizeOf 22).run Try.prog w = .ok 1 w := fun _ => by kernel_rfl
  have hs2 : ∀ w, (sizeOf 40).run Try.prog w = .ok 13 w := fun _ => by kernel_rfl
  rw [run_equalIn_struct _ (d + 4) 42 _ _ (by kernel_rfl) (by kernel_rfl)]
  simp [Program.fieldsOf, Try.underlying42, go_sem, part, hb, hu, hl, hs, hs1, hs2, h2, h3, h4]
theorem rcheq (c : CH) (h : c.r.ok) (v : World) : (binOp .eql 42 (rchv c) (rchv c)).run Try.prog v = .ok (.bool true) v := by
  rw [run_eql_struct, rcheqIn 9995 c h]; rfl
set_option maxRecDepth 100000 in
set_option maxHeartbeats 4000000 in
theorem seven_true (w : World) :
    Calls Try.prog 9 #[] w fun e w' => e = .returned (.bool true) ∧ Below w.heap.size w w' := by
  have K0 := hide (show ∀ v, Calls Try.prog 11 #[.agg #[.bool false, .int .u64 0, .int .u64 0, .int .u64 0, .int .u64 0, .int .u64 0, .int .u64 0, .int .u64 0, .int .u64 0, .bool false, .int .u64 0], .agg #[.int .u64 65536, .int .u64 0, .int .u64 65536], .int .u64 7, .int .u64 100] v fun e w' => e = .returned (.agg #[.bool true, .int .u64 0, .int .u64 (hi (0)), .int .u64 (lo (0)), .int .u64 0, .int .u64 7, .int .u64 (hi (6553600)), .int .u64 (lo (6553600)), .int .u64 65536, .bool false, .int .u64 7]) ∧ Below v.heap.size v w' from fun v => wake_any ⟨false, ⟨⟨0, 0, 0⟩, ⟨0, 0, 0⟩, false⟩, 0⟩ ⟨true, ⟨⟨0, 0, 0⟩, ⟨7, 6553600, 65536⟩, false⟩, 7⟩ 65536 0 65536 7 100 v (by omega) (by omega) (by omega) (by omega) (by omega) (by unfold RN.ok LN.ok In128; simp) (by rfl))
  have K1 := hide (show ∀ v, Calls Try.prog 13 #[.agg #[.bool true, .int .u64 0, .int .u64 (hi (0)), .int .u64 (lo (0)), .int .u64 0, .int .u64 7, .int .u64 (hi (6553600)), .int .u64 (lo (6553600)), .int .u64 65536, .bool false, .int .u64 7], .int .u64 150] v fun e w' => e = .returned (.agg #[.bool true, .int .u64 0, .int .u64 (hi (0)), .int .u64 (lo (0)), .int .u64 0, .int .u64 7, .int .u64 (hi (6553600)), .int .u64 (lo (6553600)), .int .u64 65536, .bool false, .int .u64 57]) ∧ Below v.heap.size v w' from fun v => took_any ⟨true, ⟨⟨0, 0, 0⟩, ⟨7, 6553600, 65536⟩, false⟩, 7⟩ ⟨true, ⟨⟨0, 0, 0⟩, ⟨7, 6553600, 65536⟩, false⟩, 57⟩ 150 v (by omega) (by unfold RN.ok LN.ok In128; simp) (by rfl))
  have K2 := hide (show ∀ v, Calls Try.prog 11 #[.agg #[.bool true, .int .u64 0, .int .u64 (hi (0)), .int .u64 (lo (0)), .int .u64 0, .int .u64 7, .int .u64 (hi (6553600)), .int .u64 (lo (6553600)), .int .u64 65536, .bool false, .int .u64 57], .agg #[.int .u64 65536, .int .u64 0, .int .u64 65536], .int .u64 30, .int .u64 150] v fun e w' => e = .returned (.agg #[.bool true, .int .u64 0, .int .u64 (hi (0)), .int .u64 (lo (0)), .int .u64 0, .int .u64 7, .int .u64 (hi (6553600)), .int .u64 (lo (6553600)), .int .u64 65536, .bool false, .int .u64 57]) ∧ Below v.heap.size v w' from fun v => wake_any ⟨true, ⟨⟨0, 0, 0⟩, ⟨7, 6553600, 65536⟩, false⟩, 57⟩ ⟨true, ⟨⟨0, 0, 0⟩, ⟨7, 6553600, 65536⟩, false⟩, 57⟩ 65536 0 65536 30 150 v (by omega) (by omega) (by omega) (by omega) (by omega) (by unfold RN.ok LN.ok In128; simp) (by rfl))
  have K3 := hide (show ∀ v, Calls Try.prog 11 #[.agg #[.bool true, .int .u64 0, .int .u64 (hi (0)), .int .u64 (lo (0)), .int .u64 0, .int .u64 7, .int .u64 (hi (6553600)), .int .u64 (lo (6553600)), .int .u64 65536, .bool false, .int .u64 57], .agg #[.int .u64 65536, .int .u64 0, .int .u64 65536], .int .u64 80, .int .u64 150] v fun e w' => e = .returned (.agg #[.bool true, .int .u64 0, .int .u64 (hi (0)), .int .u64 (lo (0)), .int .u64 0, .int .u64 80, .int .u64 (hi (9830400)), .int .u64 (lo (9830400)), .int .u64 65536, .bool false, .int .u64 80]) ∧ Below v.heap.size v w' from fun v => wake_any ⟨true, ⟨⟨0, 0, 0⟩, ⟨7, 6553600, 65536⟩, false⟩, 57⟩ ⟨true, ⟨⟨0, 0, 0⟩, ⟨80, 9830400, 65536⟩, false⟩, 80⟩ 65536 0 65536 80 150 v (by omega) (by omega) (by omega) (by omega) (by omega) (by unfold RN.ok LN.ok In128; simp) (by rfl))
  have K4 := hide (show ∀ v, Calls Try.prog 15 #[.agg #[.int .u64 0, .int .u64 (hi (0)), .int .u64 (lo (0)), .int .u64 0, .int .u64 80, .int .u64 (hi (9830400)), .int .u64 (lo (9830400)), .int .u64 65536, .bool false], .int .u64 160] v fun e w' => e = .returned (.int .u64 90) ∧ Below v.heap.size v w' from fun v => share_time ⟨⟨0, 0, 0⟩, ⟨80, 9830400, 65536⟩, false⟩ 160 90 v (by unfold RN.ok LN.ok In128; simp) (by omega) (by rfl))
  go_enter Try.func9, Try.ntmps9
  go_wp2_with fail
  refine (K0.out _).mono ?_
  rintro e w1 ⟨rfl, hb1⟩
  have L1 : Blk w1 (w.heap.size) #[.int .u64 65536, .int .u64 0, .int .u64 65536] 32 := Blk.below (by (repeat' (first | (with_reducible (first | assumption | exact Blk.alloc_new _ _ _ (by first | rfl | (simp; done) | omega) | apply Blk.drewN | apply Blk.drew | apply Blk.alloc_old | apply Blk.set_same | apply Blk.set_other)) | (show (_ : Nat) ≠ _; first | omega | (simp; done) | (simp; omega)) | ((simp only [List.setIfInBounds_toArray, List.set_cons_succ, List.set_cons_zero]); (with_reducible exact rfl)) | (with_reducible exact rfl) | (show (_ : Array Value) = _; exact rfl)))) hb1 (by first | (simp; done) | omega | (simp; omega))
  have g1 : Below w.heap.size w w1 := by refine Below.trans ?_ (hb1.mono ?_) <;> (repeat' (first | (with_reducible (first | exact Below.refl _ _ | assumption | refine below_drewN ?_ _ | refine Below.drew ?_ | refine Below.alloc ?_ ?_ _ | refine Below.setCell ?_ ?_ _)) | go_size))
  have hz1 := hb1.size
  (try simp at hz1)
  clear hb1
  have cL := L1.cell
  have fL := L1.frozen
  have zL := L1.size
  go_wp2_with fail
  refine (K1.out _).mono ?_
  rintro e w2 ⟨rfl, hb2⟩
  have L2 : Blk w2 (w.heap.size) #[.int .u64 65536, .int .u64 0, .int .u64 65536] 32 := Blk.below (by (repeat' (first | (with_reducible (first | assumption | exact Blk.alloc_new _ _ _ (by first | rfl | (simp; done) | omega) | apply Blk.drewN | apply Blk.drew | apply Blk.alloc_old | apply Blk.set_same | apply Blk.set_other)) | (show (_ : Nat) ≠ _; first | omega | (simp; done) | (simp; omega)) | ((simp only [List.setIfInBounds_toArray, List.set_cons_succ, List.set_cons_zero]); (with_reducible exact rfl)) | (with_reducible exact rfl) | (show (_ : Array Value) = _; exact rfl)))) hb2 (by first | (simp; done) | omega | (simp; omega))
  have A2 : Blk w2 (w1.heap.size) #[.bool true, .int .u64 0, .int .u64 (hi (0)), .int .u64 (lo (0)), .int .u64 0, .int .u64 7, .int .u64 (hi (6553600)), .int .u64 (lo (6553600)), .int .u64 65536, .bool false, .int .u64 7] 30 := Blk.below (by (repeat' (first | (with_reducible (first | assumption | exact Blk.alloc_new _ _ _ (by first | rfl | (simp; done) | omega) | apply Blk.drewN | apply Blk.drew | apply Blk.alloc_old | apply Blk.set_same | apply Blk.set_other)) | (show (_ : Nat) ≠ _; first | omega | (simp; done) | (simp; omega)) | ((simp only [List.setIfInBounds_toArray, List.set_cons_succ, List.set_cons_zero]); (with_reducible exact rfl)) | (with_reducible exact rfl) | (show (_ : Array Value) = _; exact rfl)))) hb2 (by first | (simp; done) | omega | (simp; omega))
  have g2 : Below w.heap.size w w2 := by refine Below.trans ?_ (hb2.mono ?_) <;> (repeat' (first | (with_reducible (first | exact Below.refl _ _ | assumption | refine below_drewN ?_ _ | refine Below.drew ?_ | refine Below.alloc ?_ ?_ _ | refine Below.setCell ?_ ?_ _)) | go_size))
  have hz2 := hb2.size
  (try simp at hz2)
  clear hb2
  replace cL := L2.cell
  replace fL := L2.frozen
  replace zL := L2.size
  have cA := A2.cell
  have fA := A2.frozen
  have zA := A2.size
  go_wp2_with fail
  refine (K2.out _).mono ?_
  rintro e w3 ⟨rfl, hb3⟩
  have L3 : Blk w3 (w.heap.size) #[.int .u64 65536, .int .u64 0, .int .u64 65536] 32 := Blk.below (by (repeat' (first | (with_reducible (first | assumption | exact Blk.alloc_new _ _ _ (by first | rfl | (simp; done) | omega) | apply Blk.drewN | apply Blk.drew | apply Blk.alloc_old | apply Blk.set_same | apply Blk.set_other)) | (show (_ : Nat) ≠ _; first | omega | (simp; done) | (simp; omega)) | ((simp only [List.setIfInBounds_toArray, List.set_cons_succ, List.set_cons_zero]); (with_reducible exact rfl)) | (with_reducible exact rfl) | (show (_ : Array Value) = _; exact rfl)))) hb3 (by first | (simp; done) | omega | (simp; omega))
  have A3 : Blk w3 (w1.heap.size) #[.bool true, .int .u64 0, .int .u64 (hi (0)), .int .u64 (lo (0)), .int .u64 0, .int .u64 7, .int .u64 (hi (6553600)), .int .u64 (lo (6553600)), .int .u64 65536, .bool false, .int .u64 7] 30 := Blk.below (by (repeat' (first | (with_reducible (first | assumption | exact Blk.alloc_new _ _ _ (by first | rfl | (simp; done) | omega) | apply Blk.drewN | apply Blk.drew | apply Blk.alloc_old | apply Blk.set_same | apply Blk.set_other)) | (show (_ : Nat) ≠ _; first | omega | (simp; done) | (simp; omega)) | ((simp only [List.setIfInBounds_toArray, List.set_cons_succ, List.set_cons_zero]); (with_reducible exact rfl)) | (with_reducible exact rfl) | (show (_ : Array Value) = _; exact rfl)))) hb3 (by first | (simp; done) | omega | (simp; omega))
  have B3 : Blk w3 (w2.heap.size) #[.bool true, .int .u64 0, .int .u64 (hi (0)), .int .u64 (lo (0)), .int .u64 0, .int .u64 7, .int .u64 (hi (6553600)), .int .u64 (lo (6553600)), .int .u64 65536, .bool false, .int .u64 57] 30 := Blk.below (by (repeat' (first | (with_reducible (first | assumption | exact Blk.alloc_new _ _ _ (by first | rfl | (simp; done) | omega) | apply Blk.drewN | apply Blk.drew | apply Blk.alloc_old | apply Blk.set_same | apply Blk.set_other)) | (show (_ : Nat) ≠ _; first | omega | (simp; done) | (simp; omega)) | ((simp only [List.setIfInBounds_toArray, List.set_cons_succ, List.set_cons_zero]); (with_reducible exact rfl)) | (with_reducible exact rfl) | (show (_ : Array Value) = _; exact rfl)))) hb3 (by first | (simp; done) | omega | (simp; omega))
  have g3 : Below w.heap.size w w3 := by refine Below.trans ?_ (hb3.mono ?_) <;> (repeat' (first | (with_reducible (first | exact Below.refl _ _ | assumption | refine below_drewN ?_ _ | refine Below.drew ?_ | refine Below.alloc ?_ ?_ _ | refine Below.setCell ?_ ?_ _)) | go_size))
  have hz3 := hb3.size
  (try simp at hz3)
  clear hb3
  replace cL := L3.cell
  replace fL := L3.frozen
  replace zL := L3.size
  replace cA := A3.cell
  replace fA := A3.frozen
  replace zA := A3.size
  have cB := B3.cell
  have fB := B3.frozen
  have zB := B3.size
  go_wp2_with fail
  refine (K3.out _).mono ?_
  rintro e w4 ⟨rfl, hb4⟩
  have L4 : Blk w4 (w.heap.size) #[.int .u64 65536, .int .u64 0, .int .u64 65536] 32 := Blk.below (by (repeat' (first | (with_reducible (first | assumption | exact Blk.alloc_new _ _ _ (by first | rfl | (simp; done) | omega) | apply Blk.drewN | apply Blk.drew | apply Blk.alloc_old | apply Blk.set_same | apply Blk.set_other)) | (show (_ : Nat) ≠ _; first | omega | (simp; done) | (simp; omega)) | ((simp only [List.setIfInBounds_toArray, List.set_cons_succ, List.set_cons_zero]); (with_reducible exact rfl)) | (with_reducible exact rfl) | (show (_ : Array Value) = _; exact rfl)))) hb4 (by first | (simp; done) | omega | (simp; omega))
  have A4 : Blk w4 (w1.heap.size) #[.bool true, .int .u64 0, .int .u64 (hi (0)), .int .u64 (lo (0)), .int .u64 0, .int .u64 7, .int .u64 (hi (6553600)), .int .u64 (lo (6553600)), .int .u64 65536, .bool false, .int .u64 7] 30 := Blk.below (by (repeat' (first | (with_reducible (first | assumption | exact Blk.alloc_new _ _ _ (by first | rfl | (simp; done) | omega) | apply Blk.drewN | apply Blk.drew | apply Blk.alloc_old | apply Blk.set_same | apply Blk.set_other)) | (show (_ : Nat) ≠ _; first | omega | (simp; done) | (simp; omega)) | ((simp only [List.setIfInBounds_toArray, List.set_cons_succ, List.set_cons_zero]); (with_reducible exact rfl)) | (with_reducible exact rfl) | (show (_ : Array Value) = _; exact rfl)))) hb4 (by first | (simp; done) | omega | (simp; omega))
  have B4 : Blk w4 (w2.heap.size) #[.bool true, .int .u64 0, .int .u64 (hi (0)), .int .u64 (lo (0)), .int .u64 0, .int .u64 7, .int .u64 (hi (6553600)), .int .u64 (lo (6553600)), .int .u64 65536, .bool false, .int .u64 57] 30 := Blk.below (by (repeat' (first | (with_reducible (first | assumption | exact Blk.alloc_new _ _ _ (by first | rfl | (simp; done) | omega) | apply Blk.drewN | apply Blk.drew | apply Blk.alloc_old | apply Blk.set_same | apply Blk.set_other)) | (show (_ : Nat) ≠ _; first | omega | (simp; done) | (simp; omega)) | ((simp only [List.setIfInBounds_toArray, List.set_cons_succ, List.set_cons_zero]); (with_reducible exact rfl)) | (with_reducible exact rfl) | (show (_ : Array Value) = _; exact rfl)))) hb4 (by first | (simp; done) | omega | (simp; omega))
  have C4 : Blk w4 (w3.heap.size) #[.bool true, .int .u64 0, .int .u64 (hi (0)), .int .u64 (lo (0)), .int .u64 0, .int .u64 7, .int .u64 (hi (6553600)), .int .u64 (lo (6553600)), .int .u64 65536, .bool false, .int .u64 57] 30 := Blk.below (by (repeat' (first | (with_reducible (first | assumption | exact Blk.alloc_new _ _ _ (by first | rfl | (simp; done) | omega) | apply Blk.drewN | apply Blk.drew | apply Blk.alloc_old | apply Blk.set_same | apply Blk.set_other)) | (show (_ : Nat) ≠ _; first | omega | (simp; done) | (simp; omega)) | ((simp only [List.setIfInBounds_toArray, List.set_cons_succ, List.set_cons_zero]); (with_reducible exact rfl)) | (with_reducible exact rfl) | (show (_ : Array Value) = _; exact rfl)))) hb4 (by first | (simp; done) | omega | (simp; omega))
  have g4 : Below w.heap.size w w4 := by refine Below.trans ?_ (hb4.mono ?_) <;> (repeat' (first | (with_reducible (first | exact Below.refl _ _ | assumption | refine below_drewN ?_ _ | refine Below.drew ?_ | refine Below.alloc ?_ ?_ _ | refine Below.setCell ?_ ?_ _)) | go_size))
  have hz4 := hb4.size
  (try simp at hz4)
  clear hb4
  replace cL := L4.cell
  replace fL := L4.frozen
  replace zL := L4.size
  replace cA := A4.cell
  replace fA := A4.frozen
  replace zA := A4.size
  replace cB := B4.cell
  replace fB := B4.frozen
  replace zB := B4.size
  have cC := C4.cell
  have fC := C4.frozen
  have zC := C4.size
  go_wp2_with fail
  refine (K4.out _).mono ?_
  rintro e w5 ⟨rfl, hb5⟩
  have L5 : Blk w5 (w.heap.size) #[.int .u64 65536, .int .u64 0, .int .u64 65536] 32 := Blk.below (by (repeat' (first | (with_reducible (first | assumption | exact Blk.alloc_new _ _ _ (by first | rfl | (simp; done) | omega) | apply Blk.drewN | apply Blk.drew | apply Blk.alloc_old | apply Blk.set_same | apply Blk.set_other)) | (show (_ : Nat) ≠ _; first | omega | (simp; done) | (simp; omega)) | ((simp only [List.setIfInBounds_toArray, List.set_cons_succ, List.set_cons_zero]); (with_reducible exact rfl)) | (with_reducible exact rfl) | (show (_ : Array Value) = _; exact rfl)))) hb5 (by first | (simp; done) | omega | (simp; omega))
  have A5 : Blk w5 (w1.heap.size) #[.bool true, .int .u64 0, .int .u64 (hi (0)), .int .u64 (lo (0)), .int .u64 0, .int .u64 7, .int .u64 (hi (6553600)), .int .u64 (lo (6553600)), .int .u64 65536, .bool false, .int .u64 7] 30 := Blk.below (by (repeat' (first | (with_reducible (first | assumption | exact Blk.alloc_new _ _ _ (by first | rfl | (simp; done) | omega) | apply Blk.drewN | apply Blk.drew | apply Blk.alloc_old | apply Blk.set_same | apply Blk.set_other)) | (show (_ : Nat) ≠ _; first | omega | (simp; done) | (simp; omega)) | ((simp only [List.setIfInBounds_toArray, List.set_cons_succ, List.set_cons_zero]); (with_reducible exact rfl)) | (with_reducible exact rfl) | (show (_ : Array Value) = _; exact rfl)))) hb5 (by first | (simp; done) | omega | (simp; omega))
  have B5 : Blk w5 (w2.heap.size) #[.bool true, .int .u64 0, .int .u64 (hi (0)), .int .u64 (lo (0)), .int .u64 0, .int .u64 7, .int .u64 (hi (6553600)), .int .u64 (lo (6553600)), .int .u64 65536, .bool false, .int .u64 57] 30 := Blk.below (by (repeat' (first | (with_reducible (first | assumption | exact Blk.alloc_new _ _ _ (by first | rfl | (simp; done) | omega) | apply Blk.drewN | apply Blk.drew | apply Blk.alloc_old | apply Blk.set_same | apply Blk.set_other)) | (show (_ : Nat) ≠ _; first | omega | (simp; done) | (simp; omega)) | ((simp only [List.setIfInBounds_toArray, List.set_cons_succ, List.set_cons_zero]); (with_reducible exact rfl)) | (with_reducible exact rfl) | (show (_ : Array Value) = _; exact rfl)))) hb5 (by first | (simp; done) | omega | (simp; omega))
  have C5 : Blk w5 (w3.heap.size) #[.bool true, .int .u64 0, .int .u64 (hi (0)), .int .u64 (lo (0)), .int .u64 0, .int .u64 7, .int .u64 (hi (6553600)), .int .u64 (lo (6553600)), .int .u64 65536, .bool false, .int .u64 57] 30 := Blk.below (by (repeat' (first | (with_reducible (first | assumption | exact Blk.alloc_new _ _ _ (by first | rfl | (simp; done) | omega) | apply Blk.drewN | apply Blk.drew | apply Blk.alloc_old | apply Blk.set_same | apply Blk.set_other)) | (show (_ : Nat) ≠ _; first | omega | (simp; done) | (simp; omega)) | ((simp only [List.setIfInBounds_toArray, List.set_cons_succ, List.set_cons_zero]); (with_reducible exact rfl)) | (with_reducible exact rfl) | (show (_ : Array Value) = _; exact rfl)))) hb5 (by first | (simp; done) | omega | (simp; omega))
  have D5 : Blk w5 (w4.heap.size) #[.bool true, .int .u64 0, .int .u64 (hi (0)), .int .u64 (lo (0)), .int .u64 0, .int .u64 80, .int .u64 (hi (9830400)), .int .u64 (lo (9830400)), .int .u64 65536, .bool false, .int .u64 80] 30 := Blk.below (by (repeat' (first | (with_reducible (first | assumption | exact Blk.alloc_new _ _ _ (by first | rfl | (simp; done) | omega) | apply Blk.drewN | apply Blk.drew | apply Blk.alloc_old | apply Blk.set_same | apply Blk.set_other)) | (show (_ : Nat) ≠ _; first | omega | (simp; done) | (simp; omega)) | ((simp only [List.setIfInBounds_toArray, List.set_cons_succ, List.set_cons_zero]); (with_reducible exact rfl)) | (with_reducible exact rfl) | (show (_ : Array Value) = _; exact rfl)))) hb5 (by first | (simp; done) | omega | (simp; omega))
  have g5 : Below w.heap.size w w5 := by refine Below.trans ?_ (hb5.mono ?_) <;> (repeat' (first | (with_reducible (first | exact Below.refl _ _ | assumption | refine below_drewN ?_ _ | refine Below.drew ?_ | refine Below.alloc ?_ ?_ _ | refine Below.setCell ?_ ?_ _)) | go_size))
  have hz5 := hb5.size
  (try simp at hz5)
  clear hb5
  replace cL := L5.cell
  replace fL := L5.frozen
  replace zL := L5.size
  replace cA := A5.cell
  replace fA := A5.frozen
  replace zA := A5.size
  replace cB := B5.cell
  replace fB := B5.frozen
  replace zB := B5.size
  replace cC := C5.cell
  replace fC := C5.frozen
  replace zC := C5.size
  have cD := D5.cell
  have fD := D5.frozen
  have zD := D5.size
  go_wp2
  go_ret
  exact ⟨rfl, by (repeat' (first | (with_reducible (first | exact Below.refl _ _ | assumption | refine below_drewN ?_ _ | refine Below.drew ?_ | refine Below.alloc ?_ ?_ _ | refine Below.setCell ?_ ?_ _)) | go_size))⟩
end Go.Proofs.Ytnkpoelljfbefaa
