/-
  Runs as their references have them, held against each other; the closed example 'hundred'. Conditions: fields in range.
-/
import Derived.Test.YtaaoadbcgnedkaaRunW
import Derived.Test.YtaaoadbcgnedkaaLineT
namespace Go.Proofs.Ytaaoadbcgnedkaa
open Go.RowKit Go.Sort
set_option linter.unusedVariables false
set_option linter.unusedSimpArgs false
theorem wneq (a b : Int) (c : Bool) (ha : In128 a) (hb : In128 b) (hc : decide (a = b) = !c) (v : World) : (binOp .neq 26 (wv a) (wv b)).run Try.prog v = .ok (.bool c) v := by
  rw [run_neq_struct, weqIn 9998 a b ha hb, hc]; simp [Result.andThen]
theorem rreqIn (d : Nat) (r : RN) (h : r.ok) (v : World) : (Op.equalIn (d + 4) 35 (rrunv r) (rrunv r)).run Try.prog v = .ok true v := by
  have hb : ∀ w, (isAgg 4).run Try.prog w = .ok false w := fun _ => by kernel_rfl
  have hl : ∀ w, (isAgg 33).run Try.prog w = .ok true w := fun _ => by kernel_rfl
  have h2 : ∀ (w : World) (x y : Bool), (Op.equalIn (d + 3) 4 (.bool x) (.bool y)).run Try.prog w = .ok (x == y) w := fun w x y => by simp [Op.equalIn, Try.underlying4, go_sem]
  have h3 := fun w => rleqIn d r.f.X r.f.Y r.f.M r.f.X r.f.Y r.f.M h.1.2.1 h.1.2.1 w
  have h4 := fun w => rleqIn d r.t.X r.t.Y r.t.M r.t.X r.t.Y r.t.M h.2.2.1 h.2.2.1 w
  have hs : ∀ w, (sizeOf 4).run Try.prog w = .ok 1 w := fun _ => by kernel_rfl
  have hs2 : ∀ w, (sizeOf 33).run Try.prog w = .ok 6 w := fun _ => by kernel_rfl
  simp only [and_self, decide_true] at h3 h4
  rw [run_equalIn_struct _ (d + 3) 35 _ _ (by kernel_rfl) (by kernel_rfl)]
  simp [Program.fieldsOf, Try.underlying35, go_sem, part, hb, hl, hs, hs2, h2, h3, h4]
theorem rreq (r : RN) (h : r.ok) (v : World) : (binOp .eql 35 (rrunv r) (rrunv r)).run Try.prog v = .ok (.bool true) v := by
  rw [run_eql_struct, rreqIn 9996 r h]; rfl
theorem rstartT (m d n x y : Int) (r : RN) (w : World) (hm : 0 ≤ m ∧ m ≤ 18446744073709551615) (hd : 0 ≤ d ∧ d ≤ 18446744073709551615) (hn : 0 ≤ n ∧ n ≤ 18446744073709551615) (hx : 0 ≤ x ∧ x ≤ 9223372036854775808) (hy : In128 y) (hr : RN.start m d n x y = r) :
    Calls Try.prog 15 #[.agg #[.int .u64 m, .int .u64 d, .int .u64 n], .int .u64 x, nv y, .bool true] w fun e w' => e = .returned (rrunv r) ∧ Below w.heap.size w w' :=
  rstart_any m d n x y true r w hm hd hn hx hy (by rw [if_pos rfl]; exact hr)
theorem rstartF (m d n x y : Int) (r : RN) (w : World) (hm : 0 ≤ m ∧ m ≤ 18446744073709551615) (hd : 0 ≤ d ∧ d ≤ 18446744073709551615) (hn : 0 ≤ n ∧ n ≤ 18446744073709551615) (hx : 0 ≤ x ∧ x ≤ 9223372036854775808) (hy : In128 y) (hr : RN.ready m d n x y = r) :
    Calls Try.prog 15 #[.agg #[.int .u64 m, .int .u64 d, .int .u64 n], .int .u64 x, nv y, .bool false] w fun e w' => e = .returned (rrunv r) ∧ Below w.heap.size w w' :=
  rstart_any m d n x y false r w hm hd hn hx hy (by rw [if_neg (by simp)]; exact hr)
theorem num06 (n : Int) (w : World) (hn : In128 n) :
    Calls Try.prog 16 #[wv n] w fun e w' => e = .returned (nv n) ∧ Below w.heap.size w w' := by
  go_enter Try.func16, Try.ntmps16
  have r1 := hi_rng n; have r2 := lo_rng n
  go_wp2_with fail
  refine (rTwo n _ hn).mono ?_
  rintro e w1 ⟨rfl, hb1⟩
  have hz1 := hb1.size
  (try simp at hz1)
  obtain ⟨hc1, hf1⟩ := bcell hb1
  try have z1 := Nat.lt_of_succ_le hz1
  have k1 : Below w.heap.size w w1 := by refine Below.trans ?_ (hb1.mono ?_) <;> (repeat' (first | (with_reducible (first | exact Below.refl _ _ | assumption | refine below_drewN ?_ _ | refine Below.drew ?_ | refine Below.alloc ?_ ?_ _ | refine Below.setCell ?_ ?_ _)) | go_size))
  have g1 := k1
  clear hb1 k1
  go_wp2
  refine bodyPost_ret (v := nv n) (by simp [results, Try.results16, go_sem, hc1]) rfl ⟨rfl, by (repeat' (first | (with_reducible (first | exact Below.refl _ _ | assumption | refine below_drewN ?_ _ | refine Below.drew ?_ | refine Below.alloc ?_ ?_ _ | refine Below.setCell ?_ ?_ _)) | go_size))⟩
set_option maxHeartbeats 1000000 in
theorem one06 (l : LN) (w : World) (h : l.ok) :
    Calls Try.prog 44 #[lnv l] w fun e w' => e = .returned (rlnv l) ∧ Below w.heap.size w w' := by
  have hY : In128 l.Y := h.2.1
  go_enter Try.func44, Try.ntmps44
  go_wp2_with fail
  refine wp_forget (fun v => Below w.heap.size w v ∧ Blk v (w.heap.size) #[.int .u64 l.X, .int .u64 (hi (l.Y)), .int .u64 (lo (l.Y)), .int .u64 l.M] 38 ∧ Blk v (w.heap.size + 1) #[.int .u64 0, .int .u64 0, .int .u64 0, .int .u64 0, .int .u64 0, .int .u64 0] 33) ⟨by (repeat' (first | (with_reducible (first | exact Below.refl _ _ | assumption | refine below_drewN ?_ _ | refine Below.drew ?_ | refine Below.alloc ?_ ?_ _ | refine Below.setCell ?_ ?_ _)) | go_size)), by (repeat' (first | (with_reducible (first | assumption | exact Blk.alloc_new _ _ _ (by first | rfl | (simp; done) | omega) | apply Blk.drewN | apply Blk.drew | apply Blk.alloc_old | apply Blk.set_same | apply Blk.set_other)) | (show (_ : Nat) ≠ _; first | omega | (simp; done) | (simp; omega)) | ((simp only [List.setIfInBounds_toArray, List.set_cons_succ, List.set_cons_zero]); (with_reducible exact rfl)) | (with_reducible exact rfl) | (show (_ : Array Value) = _; exact rfl))), by (repeat' (first | (with_reducible (first | assumption | exact Blk.alloc_new _ _ _ (by first | rfl | (simp; done) | omega) | apply Blk.drewN | apply Blk.drew | apply Blk.alloc_old | apply Blk.set_same | apply Blk.set_other)) | (show (_ : Nat) ≠ _; first | omega | (simp; done) | (simp; omega)) | ((simp only [List.setIfInBounds_toArray, List.set_cons_succ, List.set_cons_zero]); (with_reducible exact rfl)) | (with_reducible exact rfl) | (show (_ : Array Value) = _; exact rfl)))⟩ ?_
  rintro w0 ⟨g0, A0, R0⟩
  have hz0 := g0.size
  replace cA := A0.cell
  replace fA := A0.frozen
  replace zA := A0.size
  replace cR := R0.cell
  replace fR := R0.frozen
  replace zR := R0.size
  go_region_held3 (fun v => (∀ i, v.cell? ⟨w.heap.size, i, none⟩ = #[.int .u64 l.X, .int .u64 (hi (l.Y)), .int .u64 (lo (l.Y)), .int .u64 l.M][i]?) ∧ w.heap.size < v.heap.size ∧ Blk v (w.heap.size) #[.int .u64 l.X, .int .u64 (hi (l.Y)), .int .u64 (lo (l.Y)), .int .u64 l.M] 38 ∧ Below w.heap.size w v)
    (first
      | (refine ⟨?_, ?_, ?_, ?_⟩ <;> first | (with_reducible assumption) | ((repeat' (first | (with_reducible (first | assumption | exact Blk.alloc_new _ _ _ (by first | rfl | (simp; done) | omega) | apply Blk.drewN | apply Blk.drew | apply Blk.alloc_old | apply Blk.set_same | apply Blk.set_other)) | (show (_ : Nat) ≠ _; first | omega | (simp; done) | (simp; omega)) | ((simp only [List.setIfInBounds_toArray, List.set_cons_succ, List.set_cons_zero]); (with_reducible exact rfl)) | (with_reducible exact rfl) | (show (_ : Array Value) = _; exact rfl))); done) | ((repeat' (first | (with_reducible (first | exact Below.refl _ _ | assumption | refine below_drewN ?_ _ | refine Below.drew ?_ | refine Below.alloc ?_ ?_ _ | refine Below.setCell ?_ ?_ _)) | go_size)); done) | omega | (go_simp; done) | (simp; done) | (exact Blk.cell (by (repeat' (first | (with_reducible (first | assumption | exact Blk.alloc_new _ _ _ (by first | rfl | (simp; done) | omega) | apply Blk.drewN | apply Blk.drew | apply Blk.alloc_old | apply Blk.set_same | apply Blk.set_other)) | (show (_ : Nat) ≠ _; first | omega | (simp; done) | (simp; omega)) | ((simp only [List.setIfInBounds_toArray, List.set_cons_succ, List.set_cons_zero]); (with_reducible exact rfl)) | (with_reducible exact rfl) | (show (_ : Array Value) = _; exact rfl)))))))
    (first
      | (go_at_call 16; (with_reducible refine (num06 l.Y _ hY).mono ?_); rintro e w' ⟨rfl, hb'⟩; have hbx : Below w.heap.size w w' := (by refine Below.trans ?_ (Below.mono hb' ?_) <;> (repeat' (first | (with_reducible (first | exact Below.refl _ _ | assumption | refine below_drewN ?_ _ | refine Below.drew ?_ | refine Below.alloc ?_ ?_ _ | refine Below.setCell ?_ ?_ _)) | go_size))); have hbs := hb'.size; (try simp at hbs); have hkA : Blk w' (w.heap.size) #[.int .u64 l.X, .int .u64 (hi (l.Y)), .int .u64 (lo (l.Y)), .int .u64 l.M] 38 := Blk.below (by (repeat' (first | (with_reducible (first | assumption | exact Blk.alloc_new _ _ _ (by first | rfl | (simp; done) | omega) | apply Blk.drewN | apply Blk.drew | apply Blk.alloc_old | apply Blk.set_same | apply Blk.set_other)) | (show (_ : Nat) ≠ _; first | omega | (simp; done) | (simp; omega)) | ((simp only [List.setIfInBounds_toArray, List.set_cons_succ, List.set_cons_zero]); (with_reducible exact rfl)) | (with_reducible exact rfl) | (show (_ : Array Value) = _; exact rfl)))) hb' (by first | (simp; done) | omega | (simp; omega)); have hqA := hkA.cell; have hzA := hkA.size; have hkR : Blk w' (w.heap.size + 1) #[.int .u64 0, .int .u64 0, .int .u64 0, .int .u64 0, .int .u64 0, .int .u64 0] 33 := Blk.below (by (repeat' (first | (with_reducible (first | assumption | exact Blk.alloc_new _ _ _ (by first | rfl | (simp; done) | omega) | apply Blk.drewN | apply Blk.drew | apply Blk.alloc_old | apply Blk.set_same | apply Blk.set_other)) | (show (_ : Nat) ≠ _; first | omega | (simp; done) | (simp; omega)) | ((simp only [List.setIfInBounds_toArray, List.set_cons_succ, List.set_cons_zero]); (with_reducible exact rfl)) | (with_reducible exact rfl) | (show (_ : Array Value) = _; exact rfl)))) hb' (by first | (simp; done) | omega | (simp; omega)); have cR := hkR.cell; have fR := hkR.frozen; have zR := hkR.size; clear hb'))
  all_goals
    go_wp2
    refine bp_forget (fun v => Below w.heap.size w v ∧ Blk v (w.heap.size + 1) #[.int .u64 l.X, .int .u64 (dg0 (l.Y)), .int .u64 (dg1 (l.Y)), .int .u64 (dg2 (l.Y)), .int .u64 (dg3 (l.Y)), .int .u64 l.M] 33) ⟨by (repeat' (first | (with_reducible (first | exact Below.refl _ _ | assumption | refine below_drewN ?_ _ | refine Below.drew ?_ | refine Below.alloc ?_ ?_ _ | refine Below.setCell ?_ ?_ _)) | go_size)), by (repeat' (first | (with_reducible (first | assumption | exact Blk.alloc_new _ _ _ (by first | rfl | (simp; done) | omega) | apply Blk.drewN | apply Blk.drew | apply Blk.alloc_old | apply Blk.set_same | apply Blk.set_other)) | (show (_ : Nat) ≠ _; first | omega | (simp; done) | (simp; omega)) | ((simp only [List.setIfInBounds_toArray, List.set_cons_succ, List.set_cons_zero]); (with_reducible exact rfl)) | (with_reducible exact rfl) | (show (_ : Array Value) = _; exact rfl)))⟩ ?_
    rintro v ⟨gv, Bv⟩
    have cv := Bv.cell
    refine bodyPost_ret (v := rlnv l) (by simp [results, Try.results44, go_sem, cv]) rfl ⟨rfl, gv⟩
set_option maxHeartbeats 2000000 in
theorem ref06 (r : RN) (w : World) (h : r.ok) :
    Calls Try.prog 13 #[runv r] w fun e w' => e = .returned (rrunv r) ∧ Below w.heap.size w w' := by
  have hf : r.f.ok := h.1; have ht : r.t.ok := h.2
  go_enter Try.func13, Try.ntmps13
  go_wp2_with fail
  refine wp_forget (fun v => Below w.heap.size w v ∧ Blk v (w.heap.size) #[.int .u64 r.f.X, .int .u64 (hi (r.f.Y)), .int .u64 (lo (r.f.Y)), .int .u64 r.f.M, .int .u64 r.t.X, .int .u64 (hi (r.t.Y)), .int .u64 (lo (r.t.Y)), .int .u64 r.t.M, .bool r.b] 40 ∧ Blk v (w.heap.size + 1) #[.int .u64 0, .int .u64 0, .int .u64 0, .int .u64 0, .int .u64 0, .int .u64 0, .int .u64 0, .int .u64 0, .int .u64 0, .int .u64 0, .int .u64 0, .int .u64 0, .bool false] 35) ⟨by (repeat' (first | (with_reducible (first | exact Below.refl _ _ | assumption | refine below_drewN ?_ _ | refine Below.drew ?_ | refine Below.alloc ?_ ?_ _ | refine Below.setCell ?_ ?_ _)) | go_size)), by (repeat' (first | (with_reducible (first | assumption | exact Blk.alloc_new _ _ _ (by first | rfl | (simp; done) | omega) | apply Blk.drewN | apply Blk.drew | apply Blk.alloc_old | apply Blk.set_same | apply Blk.set_other)) | (show (_ : Nat) ≠ _; first | omega | (simp; done) | (simp; omega)) | ((simp only [List.setIfInBounds_toArray, List.set_cons_succ, List.set_cons_zero]); (with_reducible exact rfl)) | (with_reducible exact rfl) | (show (_ : Array Value) = _; exact rfl))), by (repeat' (first | (with_reducible (first | assumption | exact Blk.alloc_new _ _ _ (by first | rfl | (simp; done) | omega) | apply Blk.drewN | apply Blk.drew | apply Blk.alloc_old | apply Blk.set_same | apply Blk.set_other)) | (show (_ : Nat) ≠ _; first | omega | (simp; done) | (simp; omega)) | ((simp only [List.setIfInBounds_toArray, List.set_cons_succ, List.set_cons_zero]); (with_reducible exact rfl)) | (with_reducible exact rfl) | (show (_ : Array Value) = _; exact rfl)))⟩ ?_
  rintro w0 ⟨g0, A0, R0⟩
  have hz0 := g0.size
  replace cA := A0.cell
  replace fA := A0.frozen
  replace zA := A0.size
  replace cR := R0.cell
  replace fR := R0.frozen
  replace zR := R0.size
  go_region_held3 (fun v => (∀ i, v.cell? ⟨w.heap.size, i, none⟩ = #[.int .u64 r.f.X, .int .u64 (hi (r.f.Y)), .int .u64 (lo (r.f.Y)), .int .u64 r.f.M, .int .u64 r.t.X, .int .u64 (hi (r.t.Y)), .int .u64 (lo (r.t.Y)), .int .u64 r.t.M, .bool r.b][i]?) ∧ w.heap.size < v.heap.size ∧ Blk v (w.heap.size) #[.int .u64 r.f.X, .int .u64 (hi (r.f.Y)), .int .u64 (lo (r.f.Y)), .int .u64 r.f.M, .int .u64 r.t.X, .int .u64 (hi (r.t.Y)), .int .u64 (lo (r.t.Y)), .int .u64 r.t.M, .bool r.b] 40 ∧ Below w.heap.size w v)
    (first
      | (refine ⟨?_, ?_, ?_, ?_⟩ <;> first | (with_reducible assumption) | ((repeat' (first | (with_reducible (first | assumption | exact Blk.alloc_new _ _ _ (by first | rfl | (simp; done) | omega) | apply Blk.drewN | apply Blk.drew | apply Blk.alloc_old | apply Blk.set_same | apply Blk.set_other)) | (show (_ : Nat) ≠ _; first | omega | (simp; done) | (simp; omega)) | ((simp only [List.setIfInBounds_toArray, List.set_cons_succ, List.set_cons_zero]); (with_reducible exact rfl)) | (with_reducible exact rfl) | (show (_ : Array Value) = _; exact rfl))); done) | ((repeat' (first | (with_reducible (first | exact Below.refl _ _ | assumption | refine below_drewN ?_ _ | refine Below.drew ?_ | refine Below.alloc ?_ ?_ _ | refine Below.setCell ?_ ?_ _)) | go_size)); done) | omega | (go_simp; done) | (simp; done) | (exact Blk.cell (by (repeat' (first | (with_reducible (first | assumption | exact Blk.alloc_new _ _ _ (by first | rfl | (simp; done) | omega) | apply Blk.drewN | apply Blk.drew | apply Blk.alloc_old | apply Blk.set_same | apply Blk.set_other)) | (show (_ : Nat) ≠ _; first | omega | (simp; done) | (simp; omega)) | ((simp only [List.setIfInBounds_toArray, List.set_cons_succ, List.set_cons_zero]); (with_reducible exact rfl)) | (with_reducible exact rfl) | (show (_ : Array Value) = _; exact rfl)))))))
    (first
      | (go_at_call 44; (with_reducible refine (one06 r.f _ hf).mono ?_); rintro e w' ⟨rfl, hb'⟩; have hbx : Below w.heap.size w w' := (by refine Below.trans ?_ (Below.mono hb' ?_) <;> (repeat' (first | (with_reducible (first | exact Below.refl _ _ | assumption | refine below_drewN ?_ _ | refine Below.drew ?_ | refine Below.alloc ?_ ?_ _ | refine Below.setCell ?_ ?_ _)) | go_size))); have hbs := hb'.size; (try simp at hbs); have hkA : Blk w' (w.heap.size) #[.int .u64 r.f.X, .int .u64 (hi (r.f.Y)), .int .u64 (lo (r.f.Y)), .int .u64 r.f.M, .int .u64 r.t.X, .int .u64 (hi (r.t.Y)), .int .u64 (lo (r.t.Y)), .int .u64 r.t.M, .bool r.b] 40 := Blk.below (by (repeat' (first | (with_reducible (first | assumption | exact Blk.alloc_new _ _ _ (by first | rfl | (simp; done) | omega) | apply Blk.drewN | apply Blk.drew | apply Blk.alloc_old | apply Blk.set_same | apply Blk.set_other)) | (show (_ : Nat) ≠ _; first | omega | (simp; done) | (simp; omega)) | ((simp only [List.setIfInBounds_toArray, List.set_cons_succ, List.set_cons_zero]); (with_reducible exact rfl)) | (with_reducible exact rfl) | (show (_ : Array Value) = _; exact rfl)))) hb' (by first | (simp; done) | omega | (simp; omega)); have hqA := hkA.cell; have hzA := hkA.size; have hkR : Blk w' (w.heap.size + 1) #[.int .u64 0, .int .u64 0, .int .u64 0, .int .u64 0, .int .u64 0, .int .u64 0, .int .u64 0, .int .u64 0, .int .u64 0, .int .u64 0, .int .u64 0, .int .u64 0, .bool false] 35 := Blk.below (by (repeat' (first | (with_reducible (first | assumption | exact Blk.alloc_new _ _ _ (by first | rfl | (simp; done) | omega) | apply Blk.drewN | apply Blk.drew | apply Blk.alloc_old | apply Blk.set_same | apply Blk.set_other)) | (show (_ : Nat) ≠ _; first | omega | (simp; done) | (simp; omega)) | ((simp only [List.setIfInBounds_toArray, List.set_cons_succ, List.set_cons_zero]); (with_reducible exact rfl)) | (with_reducible exact rfl) | (show (_ : Array Value) = _; exact rfl)))) hb' (by first | (simp; done) | omega | (simp; omega)); have cR := hkR.cell; have fR := hkR.frozen; have zR := hkR.size; clear hb')
      | (go_at_call 44; (with_reducible refine (one06 r.t _ ht).mono ?_); rintro e w' ⟨rfl, hb'⟩; have hbx : Below w.heap.size w w' := (by refine Below.trans ?_ (Below.mono hb' ?_) <;> (repeat' (first | (with_reducible (first | exact Below.refl _ _ | assumption | refine below_drewN ?_ _ | refine Below.drew ?_ | refine Below.alloc ?_ ?_ _ | refine Below.setCell ?_ ?_ _)) | go_size))); have hbs := hb'.size; (try simp at hbs); have hkA : Blk w' (w.heap.size) #[.int .u64 r.f.X, .int .u64 (hi (r.f.Y)), .int .u64 (lo (r.f.Y)), .int .u64 r.f.M, .int .u64 r.t.X, .int .u64 (hi (r.t.Y)), .int .u64 (lo (r.t.Y)), .int .u64 r.t.M, .bool r.b] 40 := Blk.below (by (repeat' (first | (with_reducible (first | assumption | exact Blk.alloc_new _ _ _ (by first | rfl | (simp; done) | omega) | apply Blk.drewN | apply Blk.drew | apply Blk.alloc_old | apply Blk.set_same | apply Blk.set_other)) | (show (_ : Nat) ≠ _; first | omega | (simp; done) | (simp; omega)) | ((simp only [List.setIfInBounds_toArray, List.set_cons_succ, List.set_cons_zero]); (with_reducible exact rfl)) | (with_reducible exact rfl) | (show (_ : Array Value) = _; exact rfl)))) hb' (by first | (simp; done) | omega | (simp; omega)); have hqA := hkA.cell; have hzA := hkA.size; have hkR : Blk w' (w.heap.size + 1) #[.int .u64 0, .int .u64 0, .int .u64 0, .int .u64 0, .int .u64 0, .int .u64 0, .int .u64 0, .int .u64 0, .int .u64 0, .int .u64 0, .int .u64 0, .int .u64 0, .bool false] 35 := Blk.below (by (repeat' (first | (with_reducible (first | assumption | exact Blk.alloc_new _ _ _ (by first | rfl | (simp; done) | omega) | apply Blk.drewN | apply Blk.drew | apply Blk.alloc_old | apply Blk.set_same | apply Blk.set_other)) | (show (_ : Nat) ≠ _; first | omega | (simp; done) | (simp; omega)) | ((simp only [List.setIfInBounds_toArray, List.set_cons_succ, List.set_cons_zero]); (with_reducible exact rfl)) | (with_reducible exact rfl) | (show (_ : Array Value) = _; exact rfl)))) hb' (by first | (simp; done) | omega | (simp; omega)); have cR := hkR.cell; have fR := hkR.frozen; have zR := hkR.size; clear hb'))
  all_goals
    go_wp2
    refine bp_forget (fun v => Below w.heap.size w v ∧ Blk v (w.heap.size + 1) #[.int .u64 r.f.X, .int .u64 (dg0 (r.f.Y)), .int .u64 (dg1 (r.f.Y)), .int .u64 (dg2 (r.f.Y)), .int .u64 (dg3 (r.f.Y)), .int .u64 r.f.M, .int .u64 r.t.X, .int .u64 (dg0 (r.t.Y)), .int .u64 (dg1 (r.t.Y)), .int .u64 (dg2 (r.t.Y)), .int .u64 (dg3 (r.t.Y)), .int .u64 r.t.M, .bool r.b] 35) ⟨by (repeat' (first | (with_reducible (first | exact Below.refl _ _ | assumption | refine below_drewN ?_ _ | refine Below.drew ?_ | refine Below.alloc ?_ ?_ _ | refine Below.setCell ?_ ?_ _)) | go_size)), by (repeat' (first | (with_reducible (first | assumption | exact Blk.alloc_new _ _ _ (by first | rfl | (simp; done) | omega) | apply Blk.drewN | apply Blk.drew | apply Blk.alloc_old | apply Blk.set_same | apply Blk.set_other)) | (show (_ : Nat) ≠ _; first | omega | (simp; done) | (simp; omega)) | ((simp only [List.setIfInBounds_toArray, List.set_cons_succ, List.set_cons_zero]); (with_reducible exact rfl)) | (with_reducible exact rfl) | (show (_ : Array Value) = _; exact rfl)))⟩ ?_
    rintro v ⟨gv, Bv⟩
    have cv := Bv.cell
    refine bodyPost_ret (v := rrunv r) (by simp [results, Try.results13, go_sem, cv]) rfl ⟨rfl, gv⟩
theorem hundred06 (w : World) :
    Calls Try.prog 12 #[] w fun e w' => e = .returned (.bool true) ∧ Below w.heap.size w w' := by
  have h1 := weq 100 100 true (by unfold In128; omega) (by unfold In128; omega) (by simp)
  have h2 := weq 106 106 true (by unfold In128; omega) (by unfold In128; omega) (by simp)
  have h3 := weq 107 107 true (by unfold In128; omega) (by unfold In128; omega) (by simp)
  have ok : RN.ok ⟨⟨10, 100, 3⟩, ⟨10, 104, 1⟩, true⟩ := by
    refine ⟨⟨?_, ?_, ?_⟩, ⟨?_, ?_, ?_⟩⟩ <;> first | (simp only []; omega) | (unfold In128; simp only []; omega)
  have A0 := hide (show ∀ v, Calls Try.prog 14 #[.agg #[.int .u64 3, .int .u64 2, .int .u64 1], .int .u64 10, wv 100] v fun e w' => e = .returned (.agg #[.int .u64 10, .int .u64 (hi (100)), .int .u64 (lo (100)), .int .u64 3, .int .u64 10, .int .u64 (hi (104)), .int .u64 (lo (104)), .int .u64 1, .bool true]) ∧ Below v.heap.size v w' from fun v => start_any 3 2 1 10 100 ⟨⟨10, 100, 3⟩, ⟨10, 104, 1⟩, true⟩ v (by omega) (by omega) (by omega) (by omega) (by unfold In128; omega) (by rfl))
  have A1 := hide (show ∀ v, Calls Try.prog 22 #[.agg #[.int .u64 10, .int .u64 (hi (100)), .int .u64 (lo (100)), .int .u64 3, .int .u64 10, .int .u64 (hi (104)), .int .u64 (lo (104)), .int .u64 1, .bool true], .int .u64 10] v fun e w' => e = .returned (wv 100) ∧ Below v.heap.size v w' from fun v => runat ⟨⟨10, 100, 3⟩, ⟨10, 104, 1⟩, true⟩ 10 100 v ok (by omega) (by rfl))
  have A2 := hide (show ∀ v, Calls Try.prog 22 #[.agg #[.int .u64 10, .int .u64 (hi (100)), .int .u64 (lo (100)), .int .u64 3, .int .u64 10, .int .u64 (hi (104)), .int .u64 (lo (104)), .int .u64 1, .bool true], .int .u64 12] v fun e w' => e = .returned (wv 106) ∧ Below v.heap.size v w' from fun v => runat ⟨⟨10, 100, 3⟩, ⟨10, 104, 1⟩, true⟩ 12 106 v ok (by omega) (by rfl))
  have A3 := hide (show ∀ v, Calls Try.prog 22 #[.agg #[.int .u64 10, .int .u64 (hi (100)), .int .u64 (lo (100)), .int .u64 3, .int .u64 10, .int .u64 (hi (104)), .int .u64 (lo (104)), .int .u64 1, .bool true], .int .u64 13] v fun e w' => e = .returned (wv 107) ∧ Below v.heap.size v w' from fun v => runat ⟨⟨10, 100, 3⟩, ⟨10, 104, 1⟩, true⟩ 13 107 v ok (by omega) (by rfl))
  have A4 := hide (show ∀ v, Calls Try.prog 25 #[.agg #[.int .u64 10, .int .u64 (hi (100)), .int .u64 (lo (100)), .int .u64 3, .int .u64 10, .int .u64 (hi (104)), .int .u64 (lo (104)), .int .u64 1, .bool true], wv 105] v fun e w' => e = .returned (.int .u64 12) ∧ Below v.heap.size v w' from fun v => runreach ⟨⟨10, 100, 3⟩, ⟨10, 104, 1⟩, true⟩ 105 12 v ok (by unfold In128; omega) (by rfl))
  go_enter Try.func12, Try.ntmps12
  go_wp2_with fail
  refine (wOf 100 _ (by omega) (by omega)).mono ?_
  rintro e w1 ⟨rfl, hb1⟩
  have g1 : Below w.heap.size w w1 := by refine Below.trans ?_ (hb1.mono ?_) <;> (repeat' (first | (with_reducible (first | exact Below.refl _ _ | assumption | refine below_drewN ?_ _ | refine Below.drew ?_ | refine Below.alloc ?_ ?_ _ | refine Below.setCell ?_ ?_ _)) | go_size))
  have hz1 := hb1.size
  (try simp at hz1)
  clear hb1
  go_wp2_with fail
  refine (A0.out _).mono ?_
  rintro e w2 ⟨rfl, hb2⟩
  have g2 : Below w.heap.size w w2 := by refine Below.trans ?_ (hb2.mono ?_) <;> (repeat' (first | (with_reducible (first | exact Below.refl _ _ | assumption | refine below_drewN ?_ _ | refine Below.drew ?_ | refine Below.alloc ?_ ?_ _ | refine Below.setCell ?_ ?_ _)) | go_size))
  have hz2 := hb2.size
  (try simp at hz2)
  clear hb2
  go_wp2_with fail
  refine wp_forget (fun v => Below w.heap.size w v ∧ Blk v (w2.heap.size) #[.int .u64 10, .int .u64 (hi (100)), .int .u64 (lo (100)), .int .u64 3, .int .u64 10, .int .u64 (hi (104)), .int .u64 (lo (104)), .int .u64 1, .bool true] 40) ⟨by (repeat' (first | (with_reducible (first | exact Below.refl _ _ | assumption | refine below_drewN ?_ _ | refine Below.drew ?_ | refine Below.alloc ?_ ?_ _ | refine Below.setCell ?_ ?_ _)) | go_size)), by (repeat' (first | (with_reducible (first | assumption | exact Blk.alloc_new _ _ _ (by first | rfl | (simp; done) | omega) | apply Blk.drewN | apply Blk.drew | apply Blk.alloc_old | apply Blk.set_same | apply Blk.set_other)) | (show (_ : Nat) ≠ _; first | omega | (simp; done) | (simp; omega)) | ((simp only [List.setIfInBounds_toArray, List.set_cons_succ, List.set_cons_zero]); (with_reducible exact rfl)) | (with_reducible exact rfl) | (show (_ : Array Value) = _; exact rfl)))⟩ ?_
  rintro v3 ⟨gv3, Zv3⟩
  have qZ3 := blk_calm Zv3
  refine wp_region_quiet_below (by kernel_rfl) (by kernel_rfl) ?_
  repeat (go_big_quiet_step ((first
      | (go_at_call 22; (with_reducible exact Calls.regrown_of (A1.out _)))
      | (go_at_call 22; (with_reducible exact Calls.regrown_of (A2.out _)))
      | (go_at_call 22; (with_reducible exact Calls.regrown_of (A3.out _)))
      | (go_at_call 24; (with_reducible exact Calls.regrown_of (wOf _ _ (by omega) (by omega))))
      | (go_at_call 25; (with_reducible exact Calls.regrown_of (A4.out _))))))
  refine wpQuiet_nil ?_
  intro _ hw'
  obtain ⟨pq, hw''⟩ := hw'
  subst hw''
  have hb3 := below_regrown v3 pq.d pq.os
  generalize Sort.grow (redrawn v3 pq.d) pq.os = w3 at *
  have Z3 : Blk w3 (w2.heap.size) #[.int .u64 10, .int .u64 (hi (100)), .int .u64 (lo (100)), .int .u64 3, .int .u64 10, .int .u64 (hi (104)), .int .u64 (lo (104)), .int .u64 1, .bool true] 40 := Blk.below Zv3 hb3 Zv3.size
  have g3 : Below w.heap.size w w3 := gv3.trans (hb3.mono gv3.size)
  have hz3 : w.heap.size ≤ w3.heap.size := g3.size
  clear hb3 gv3 Zv3 qZ3
  have cZ := Z3.cell
  have fZ := Z3.frozen
  have zZ := Z3.size
  go_wp2
  go_ret
  exact ⟨rfl, by (repeat' (first | (with_reducible (first | exact Below.refl _ _ | assumption | refine below_drewN ?_ _ | refine Below.drew ?_ | refine Below.alloc ?_ ?_ _ | refine Below.setCell ?_ ?_ _)) | go_size))⟩
end Go.Proofs.Ytaaoadbcgnedkaa
