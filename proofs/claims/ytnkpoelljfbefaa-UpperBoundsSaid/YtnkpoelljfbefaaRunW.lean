/-
  The walks of lines.At, Reach, and of their references. Conditions: fields in range.
-/
import Derived.Test.YtnkpoelljfbefaaRun
namespace Go.Proofs.Ytnkpoelljfbefaa
open Go.RowKit Go.Sort
set_option linter.unusedVariables false
set_option linter.unusedSimpArgs false
theorem all_false (r : RN) (w : World) (hb : r.b = false) :
    Calls Try.prog 56 #[runv r] w fun e w' => e = .returned (.agg #[.int .u64 r.t.X, .int .u64 (hi (r.t.Y)), .int .u64 (lo (r.t.Y)), .int .u64 r.t.M, .int .u64 r.t.X, .int .u64 (hi (r.t.Y)), .int .u64 (lo (r.t.Y)), .int .u64 r.t.M]) ∧ Below w.heap.size w w' := by
  rw [runv, hb]
  clear hb
  go_enter Try.func56, Try.ntmps56
  go_wp2
  refine bp_forget (fun v => Below w.heap.size w v ∧ Blk v (w.heap.size + 1) #[.int .u64 r.t.X, .int .u64 (hi (r.t.Y)), .int .u64 (lo (r.t.Y)), .int .u64 r.t.M, .int .u64 r.t.X, .int .u64 (hi (r.t.Y)), .int .u64 (lo (r.t.Y)), .int .u64 r.t.M] 106) ⟨by (repeat' (first | (with_reducible (first | exact Below.refl _ _ | assumption | refine below_drewN ?_ _ | refine Below.drew ?_ | refine Below.alloc ?_ ?_ _ | refine Below.setCell ?_ ?_ _)) | go_size)), by (repeat' (first | (with_reducible (first | assumption | exact Blk.alloc_new _ _ _ (by first | rfl | (simp; done) | omega) | apply Blk.drewN | apply Blk.drew | apply Blk.alloc_old | apply Blk.set_same | apply Blk.set_other)) | (show (_ : Nat) ≠ _; first | omega | (simp; done) | (simp; omega)) | ((simp only [List.setIfInBounds_toArray, List.set_cons_succ, List.set_cons_zero]); (with_reducible exact rfl)) | (with_reducible exact rfl) | (show (_ : Array Value) = _; exact rfl)))⟩ ?_
  rintro v ⟨gv, Bv⟩
  have cv := Bv.cell
  refine bodyPost_ret (v := .agg #[.int .u64 r.t.X, .int .u64 (hi (r.t.Y)), .int .u64 (lo (r.t.Y)), .int .u64 r.t.M, .int .u64 r.t.X, .int .u64 (hi (r.t.Y)), .int .u64 (lo (r.t.Y)), .int .u64 r.t.M]) (by simp [results, Try.results56, go_sem, cv]) rfl ⟨rfl, gv⟩
theorem all_true (r : RN) (w : World) (hb : r.b = true) :
    Calls Try.prog 56 #[runv r] w fun e w' => e = .returned (.agg #[.int .u64 r.f.X, .int .u64 (hi (r.f.Y)), .int .u64 (lo (r.f.Y)), .int .u64 r.f.M, .int .u64 r.t.X, .int .u64 (hi (r.t.Y)), .int .u64 (lo (r.t.Y)), .int .u64 r.t.M]) ∧ Below w.heap.size w w' := by
  rw [runv, hb]
  clear hb
  go_enter Try.func56, Try.ntmps56
  go_wp2
  refine bp_forget (fun v => Below w.heap.size w v ∧ Blk v (w.heap.size + 1) #[.int .u64 r.f.X, .int .u64 (hi (r.f.Y)), .int .u64 (lo (r.f.Y)), .int .u64 r.f.M, .int .u64 r.t.X, .int .u64 (hi (r.t.Y)), .int .u64 (lo (r.t.Y)), .int .u64 r.t.M] 106) ⟨by (repeat' (first | (with_reducible (first | exact Below.refl _ _ | assumption | refine below_drewN ?_ _ | refine Below.drew ?_ | refine Below.alloc ?_ ?_ _ | refine Below.setCell ?_ ?_ _)) | go_size)), by (repeat' (first | (with_reducible (first | assumption | exact Blk.alloc_new _ _ _ (by first | rfl | (simp; done) | omega) | apply Blk.drewN | apply Blk.drew | apply Blk.alloc_old | apply Blk.set_same | apply Blk.set_other)) | (show (_ : Nat) ≠ _; first | omega | (simp; done) | (simp; omega)) | ((simp only [List.setIfInBounds_toArray, List.set_cons_succ, List.set_cons_zero]); (with_reducible exact rfl)) | (with_reducible exact rfl) | (show (_ : Array Value) = _; exact rfl)))⟩ ?_
  rintro v ⟨gv, Bv⟩
  have cv := Bv.cell
  refine bodyPost_ret (v := .agg #[.int .u64 r.f.X, .int .u64 (hi (r.f.Y)), .int .u64 (lo (r.f.Y)), .int .u64 r.f.M, .int .u64 r.t.X, .int .u64 (hi (r.t.Y)), .int .u64 (lo (r.t.Y)), .int .u64 r.t.M]) (by simp [results, Try.results56, go_sem, cv]) rfl ⟨rfl, gv⟩
theorem all_any (r : RN) (g : LN) (w : World) (hg : (if r.b = true then r.f else r.t) = g) :
    Calls Try.prog 56 #[runv r] w fun e w' => e = .returned (.agg #[.int .u64 g.X, .int .u64 (hi (g.Y)), .int .u64 (lo (g.Y)), .int .u64 g.M, .int .u64 r.t.X, .int .u64 (hi (r.t.Y)), .int .u64 (lo (r.t.Y)), .int .u64 r.t.M]) ∧ Below w.heap.size w w' := by
  subst hg
  rcases h : r.b with _ | _
  · simp only [Bool.false_eq_true, if_false]; exact all_false r w h
  · simp only [if_true]; exact all_true r w h
theorem natL (l : LN) (x s : Int) (w : World) (h : l.ok) (hx : 0 ≤ x ∧ x ≤ 18446744073709551615) (hs : l.at x = s) :
    Calls Try.prog 67 #[lnv l, .int .u64 x] w fun e w' => e = .returned (wv s) ∧ Below w.heap.size w w' := lat l.X l.Y l.M x s w h.1 h.2.1 h.2.2 hx hs
theorem rnatL (l : LN) (x s : Int) (w : World) (h : l.ok) (hx : 0 ≤ x ∧ x ≤ 18446744073709551615) (hs : l.at x = s) :
    Calls Try.prog 68 #[rlnv l, .int .u64 x] w fun e w' => e = .returned (nv s) ∧ Below w.heap.size w w' := rlat l.X l.Y l.M x s w h.1 h.2.1 h.2.2 hx hs
theorem nreachL (l : LN) (W s : Int) (w : World) (h : l.ok) (hW : In128 W) (hs : l.reach W = s) :
    Calls Try.prog 57 #[lnv l, wv W] w fun e w' => e = .returned (.int .u64 s) ∧ Below w.heap.size w w' := lreach l.X l.Y l.M W s w h.1 h.2.1 h.2.2 hW hs
theorem rnreachL (l : LN) (W s : Int) (w : World) (h : l.ok) (hW : In128 W) (hs : l.reach W = s) :
    Calls Try.prog 58 #[rlnv l, nv W] w fun e w' => e = .returned (.int .u64 s) ∧ Below w.heap.size w w' := rlreach l.X l.Y l.M W s w h.1 h.2.1 h.2.2 hW hs
set_option maxHeartbeats 4000000 in
theorem runreach' (r : RN) (g : LN) (W p q s : Int) (w : World) (hg : (if r.b = true then r.f else r.t) = g) (og : g.ok) (ot : r.t.ok) (hW : In128 W) (hp : g.reach W = p) (hq : r.t.reach W = q) (p0 : 0 ≤ p) (q0 : 0 ≤ q) (hs : s = max p q) :
    Calls Try.prog 39 #[runv r, wv W] w fun e w' => e = .returned (.int .u64 s) ∧ Below w.heap.size w w' := by
  have Hg := hide hg; have Hp := hide hp; have Hq := hide hq; have Hs := hide hs; clear hg hp hq hs
  have ix0 : ∀ v, (Instr.index 106 (.agg #[.int .u64 g.X, .int .u64 (hi (g.Y)), .int .u64 (lo (g.Y)), .int .u64 g.M, .int .u64 r.t.X, .int .u64 (hi (r.t.Y)), .int .u64 (lo (r.t.Y)), .int .u64 r.t.M]) (.int .i64 0)).run Try.prog v = .ok (.agg #[.int .u64 g.X, .int .u64 (hi (g.Y)), .int .u64 (lo (g.Y)), .int .u64 g.M]) v := fun _ => by kernel_rfl
  have ix1 : ∀ v, (Instr.index 106 (.agg #[.int .u64 g.X, .int .u64 (hi (g.Y)), .int .u64 (lo (g.Y)), .int .u64 g.M, .int .u64 r.t.X, .int .u64 (hi (r.t.Y)), .int .u64 (lo (r.t.Y)), .int .u64 r.t.M]) (.int .i64 1)).run Try.prog v = .ok (.agg #[.int .u64 r.t.X, .int .u64 (hi (r.t.Y)), .int .u64 (lo (r.t.Y)), .int .u64 r.t.M]) v := fun _ => by kernel_rfl
  go_enter Try.func39, Try.ntmps39
  go_wp2_with fail
  refine (all_any r g _ Hg.out).mono ?_
  rintro e w1 ⟨rfl, hb1⟩
  have W1 : Blk w1 (w.heap.size + 1) #[.int .u64 (hi (W)), .int .u64 (lo (W))] 24 := Blk.below (by (repeat' (first | (with_reducible (first | assumption | exact Blk.alloc_new _ _ _ (by first | rfl | (simp; done) | omega) | apply Blk.drewN | apply Blk.drew | apply Blk.alloc_old | apply Blk.set_same | apply Blk.set_other)) | (show (_ : Nat) ≠ _; first | omega | (simp; done) | (simp; omega)) | ((simp only [List.setIfInBounds_toArray, List.set_cons_succ, List.set_cons_zero]); (with_reducible exact rfl)) | (with_reducible exact rfl) | (show (_ : Array Value) = _; exact rfl)))) hb1 (by first | (simp; done) | omega | (simp; omega))
  have g1 : Below w.heap.size w w1 := by refine Below.trans ?_ (hb1.mono ?_) <;> (repeat' (first | (with_reducible (first | exact Below.refl _ _ | assumption | refine below_drewN ?_ _ | refine Below.drew ?_ | refine Below.alloc ?_ ?_ _ | refine Below.setCell ?_ ?_ _)) | go_size))
  have hz1 := hb1.size
  (try simp at hz1)
  clear hb1
  replace cW := W1.cell
  replace fW := W1.frozen
  replace zW := W1.size
  go_wp2
  refine wp_loop_rounds 3 ?_
  rw [rounds_succ]
  go_wp2_with fail
  refine (nreachL g W p _ og hW Hp.out).mono ?_
  rintro e w2 ⟨rfl, hb2⟩
  have W2 : Blk w2 (w.heap.size + 1) #[.int .u64 (hi (W)), .int .u64 (lo (W))] 24 := Blk.below (by (repeat' (first | (with_reducible (first | assumption | exact Blk.alloc_new _ _ _ (by first | rfl | (simp; done) | omega) | apply Blk.drewN | apply Blk.drew | apply Blk.alloc_old | apply Blk.set_same | apply Blk.set_other)) | (show (_ : Nat) ≠ _; first | omega | (simp; done) | (simp; omega)) | ((simp only [List.setIfInBounds_toArray, List.set_cons_succ, List.set_cons_zero]); (with_reducible exact rfl)) | (with_reducible exact rfl) | (show (_ : Array Value) = _; exact rfl)))) hb2 (by first | (simp; done) | omega | (simp; omega))
  have g2 : Below w.heap.size w w2 := by refine Below.trans ?_ (hb2.mono ?_) <;> (repeat' (first | (with_reducible (first | exact Below.refl _ _ | assumption | refine below_drewN ?_ _ | refine Below.drew ?_ | refine Below.alloc ?_ ?_ _ | refine Below.setCell ?_ ?_ _)) | go_size))
  have hz2 := hb2.size
  (try simp at hz2)
  clear hb2
  replace cW := W2.cell
  replace fW := W2.frozen
  replace zW := W2.size
  go_wp2
  all_goals
    rw [rounds_succ]
    go_wp2_with fail
    refine (nreachL r.t W q _ ot hW Hq.out).mono ?_
    rintro e w3 ⟨rfl, hb3⟩
    have W3 : Blk w3 (w.heap.size + 1) #[.int .u64 (hi (W)), .int .u64 (lo (W))] 24 := Blk.below (by (repeat' (first | (with_reducible (first | assumption | exact Blk.alloc_new _ _ _ (by first | rfl | (simp; done) | omega) | apply Blk.drewN | apply Blk.drew | apply Blk.alloc_old | apply Blk.set_same | apply Blk.set_other)) | (show (_ : Nat) ≠ _; first | omega | (simp; done) | (simp; omega)) | ((simp only [List.setIfInBounds_toArray, List.set_cons_succ, List.set_cons_zero]); (with_reducible exact rfl)) | (with_reducible exact rfl) | (show (_ : Array Value) = _; exact rfl)))) hb3 (by first | (simp; done) | omega | (simp; omega))
    have g3 : Below w.heap.size w w3 := by refine Below.trans ?_ (hb3.mono ?_) <;> (repeat' (first | (with_reducible (first | exact Below.refl _ _ | assumption | refine below_drewN ?_ _ | refine Below.drew ?_ | refine Below.alloc ?_ ?_ _ | refine Below.setCell ?_ ?_ _)) | go_size))
    have hz3 := hb3.size
    (try simp at hz3)
    clear hb3
    replace cW := W3.cell
    replace fW := W3.frozen
    replace zW := W3.size
    go_wp2
    all_goals
      rw [rounds_succ]
      go_wp2
      go_ret
      exact ⟨reti (by have := Hs.out; omega), by (repeat' (first | (with_reducible (first | exact Below.refl _ _ | assumption | refine below_drewN ?_ _ | refine Below.drew ?_ | refine Below.alloc ?_ ?_ _ | refine Below.setCell ?_ ?_ _)) | go_size))⟩
theorem runreach (r : RN) (W s : Int) (w : World) (h : r.ok) (hW : In128 W) (hs : r.reach W = s) :
    Calls Try.prog 39 #[runv r, wv W] w fun e w' => e = .returned (.int .u64 s) ∧ Below w.heap.size w w' := by
  obtain ⟨g, hg⟩ : ∃ g, (if r.b = true then r.f else r.t) = g := ⟨_, rfl⟩
  have og : g.ok := by rw [← hg]; split; exact h.1; exact h.2
  refine runreach' r g W _ _ s w hg og h.2 hW rfl rfl (LN.reach_rng og W).1 (LN.reach_rng h.2 W).1 ?_
  rw [← hs, ← hg]; unfold RN.reach
  by_cases hb : r.b = true
  · rw [if_pos hb, if_pos hb]
  · rw [if_neg hb, if_neg hb]; omega
theorem rrunreach_f (r : RN) (W p q : Int) (w : World) (hb : r.b = false) (ot : r.t.ok) (hW : In128 W) (hq : r.t.reach W = q) :
    Calls Try.prog 41 #[rrunv r, nv W] w fun e w' => e = .returned (.int .u64 q) ∧ Below w.heap.size w w' := by
  have Hq := hide hq; clear hq
  rw [rrunv, hb]
  clear hb
  go_enter Try.func41, Try.ntmps41
  go_wp2_with fail
  refine (rnreachL r.t W q _ ot hW Hq.out).mono ?_
  rintro e w1 ⟨rfl, hb1⟩
  have A1 : Blk w1 (w.heap.size) #[.int .u64 r.f.X, .int .u64 (dg0 (r.f.Y)), .int .u64 (dg1 (r.f.Y)), .int .u64 (dg2 (r.f.Y)), .int .u64 (dg3 (r.f.Y)), .int .u64 r.f.M, .int .u64 r.t.X, .int .u64 (dg0 (r.t.Y)), .int .u64 (dg1 (r.t.Y)), .int .u64 (dg2 (r.t.Y)), .int .u64 (dg3 (r.t.Y)), .int .u64 r.t.M, .bool false] 40 := Blk.below (by (repeat' (first | (with_reducible (first | assumption | exact Blk.alloc_new _ _ _ (by first | rfl | (simp; done) | omega) | apply Blk.drewN | apply Blk.drew | apply Blk.alloc_old | apply Blk.set_same | apply Blk.set_other)) | (show (_ : Nat) ≠ _; first | omega | (simp; done) | (simp; omega)) | ((simp only [List.setIfInBounds_toArray, List.set_cons_succ, List.set_cons_zero]); (with_reducible exact rfl)) | (with_reducible exact rfl) | (show (_ : Array Value) = _; exact rfl)))) hb1 (by first | (simp; done) | omega | (simp; omega))
  have W1 : Blk w1 (w.heap.size + 1) #[.int .u64 (dg0 (W)), .int .u64 (dg1 (W)), .int .u64 (dg2 (W)), .int .u64 (dg3 (W))] 36 := Blk.below (by (repeat' (first | (with_reducible (first | assumption | exact Blk.alloc_new _ _ _ (by first | rfl | (simp; done) | omega) | apply Blk.drewN | apply Blk.drew | apply Blk.alloc_old | apply Blk.set_same | apply Blk.set_other)) | (show (_ : Nat) ≠ _; first | omega | (simp; done) | (simp; omega)) | ((simp only [List.setIfInBounds_toArray, List.set_cons_succ, List.set_cons_zero]); (with_reducible exact rfl)) | (with_reducible exact rfl) | (show (_ : Array Value) = _; exact rfl)))) hb1 (by first | (simp; done) | omega | (simp; omega))
  have g1 : Below w.heap.size w w1 := by refine Below.trans ?_ (hb1.mono ?_) <;> (repeat' (first | (with_reducible (first | exact Below.refl _ _ | assumption | refine below_drewN ?_ _ | refine Below.drew ?_ | refine Below.alloc ?_ ?_ _ | refine Below.setCell ?_ ?_ _)) | go_size))
  have hz1 := hb1.size
  (try simp at hz1)
  clear hb1
  replace cA := A1.cell
  replace fA := A1.frozen
  replace zA := A1.size
  replace cW := W1.cell
  replace fW := W1.frozen
  replace zW := W1.size
  go_wp2
  go_ret
  exact ⟨rfl, by (repeat' (first | (with_reducible (first | exact Below.refl _ _ | assumption | refine below_drewN ?_ _ | refine Below.drew ?_ | refine Below.alloc ?_ ?_ _ | refine Below.setCell ?_ ?_ _)) | go_size))⟩
theorem rrunreach_tt (r : RN) (W p q : Int) (w : World) (hb : r.b = true) (ot : r.t.ok) (hW : In128 W) (hq : r.t.reach W = q) (of : r.f.ok) (hp : r.f.reach W = p) (hlt : decide (q < p) = true) :
    Calls Try.prog 41 #[rrunv r, nv W] w fun e w' => e = .returned (.int .u64 p) ∧ Below w.heap.size w w' := by
  have Hq := hide hq; clear hq; have Hp := hide hp; clear hp
  rw [rrunv, hb]
  clear hb
  go_enter Try.func41, Try.ntmps41
  go_wp2_with fail
  refine (rnreachL r.t W q _ ot hW Hq.out).mono ?_
  rintro e w1 ⟨rfl, hb1⟩
  have A1 : Blk w1 (w.heap.size) #[.int .u64 r.f.X, .int .u64 (dg0 (r.f.Y)), .int .u64 (dg1 (r.f.Y)), .int .u64 (dg2 (r.f.Y)), .int .u64 (dg3 (r.f.Y)), .int .u64 r.f.M, .int .u64 r.t.X, .int .u64 (dg0 (r.t.Y)), .int .u64 (dg1 (r.t.Y)), .int .u64 (dg2 (r.t.Y)), .int .u64 (dg3 (r.t.Y)), .int .u64 r.t.M, .bool true] 40 := Blk.below (by (repeat' (first | (with_reducible (first | assumption | exact Blk.alloc_new _ _ _ (by first | rfl | (simp; done) | omega) | apply Blk.drewN | apply Blk.drew | apply Blk.alloc_old | apply Blk.set_same | apply Blk.set_other)) | (show (_ : Nat) ≠ _; first | omega | (simp; done) | (simp; omega)) | ((simp only [List.setIfInBounds_toArray, List.set_cons_succ, List.set_cons_zero]); (with_reducible exact rfl)) | (with_reducible exact rfl) | (show (_ : Array Value) = _; exact rfl)))) hb1 (by first | (simp; done) | omega | (simp; omega))
  have W1 : Blk w1 (w.heap.size + 1) #[.int .u64 (dg0 (W)), .int .u64 (dg1 (W)), .int .u64 (dg2 (W)), .int .u64 (dg3 (W))] 36 := Blk.below (by (repeat' (first | (with_reducible (first | assumption | exact Blk.alloc_new _ _ _ (by first | rfl | (simp; done) | omega) | apply Blk.drewN | apply Blk.drew | apply Blk.alloc_old | apply Blk.set_same | apply Blk.set_other)) | (show (_ : Nat) ≠ _; first | omega | (simp; done) | (simp; omega)) | ((simp only [List.setIfInBounds_toArray, List.set_cons_succ, List.set_cons_zero]); (with_reducible exact rfl)) | (with_reducible exact rfl) | (show (_ : Array Value) = _; exact rfl)))) hb1 (by first | (simp; done) | omega | (simp; omega))
  have g1 : Below w.heap.size w w1 := by refine Below.trans ?_ (hb1.mono ?_) <;> (repeat' (first | (with_reducible (first | exact Below.refl _ _ | assumption | refine below_drewN ?_ _ | refine Below.drew ?_ | refine Below.alloc ?_ ?_ _ | refine Below.setCell ?_ ?_ _)) | go_size))
  have hz1 := hb1.size
  (try simp at hz1)
  clear hb1
  replace cA := A1.cell
  replace fA := A1.frozen
  replace zA := A1.size
  replace cW := W1.cell
  replace fW := W1.frozen
  replace zW := W1.size
  go_wp2_with fail
  refine (rnreachL r.f W p _ of hW Hp.out).mono ?_
  rintro e w2 ⟨rfl, hb2⟩
  have A2 : Blk w2 (w.heap.size) #[.int .u64 r.f.X, .int .u64 (dg0 (r.f.Y)), .int .u64 (dg1 (r.f.Y)), .int .u64 (dg2 (r.f.Y)), .int .u64 (dg3 (r.f.Y)), .int .u64 r.f.M, .int .u64 r.t.X, .int .u64 (dg0 (r.t.Y)), .int .u64 (dg1 (r.t.Y)), .int .u64 (dg2 (r.t.Y)), .int .u64 (dg3 (r.t.Y)), .int .u64 r.t.M, .bool true] 40 := Blk.below (by (repeat' (first | (with_reducible (first | assumption | exact Blk.alloc_new _ _ _ (by first | rfl | (simp; done) | omega) | apply Blk.drewN | apply Blk.drew | apply Blk.alloc_old | apply Blk.set_same | apply Blk.set_other)) | (show (_ : Nat) ≠ _; first | omega | (simp; done) | (simp; omega)) | ((simp only [List.setIfInBounds_toArray, List.set_cons_succ, List.set_cons_zero]); (with_reducible exact rfl)) | (with_reducible exact rfl) | (show (_ : Array Value) = _; exact rfl)))) hb2 (by first | (simp; done) | omega | (simp; omega))
  have W2 : Blk w2 (w.heap.size + 1) #[.int .u64 (dg0 (W)), .int .u64 (dg1 (W)), .int .u64 (dg2 (W)), .int .u64 (dg3 (W))] 36 := Blk.below (by (repeat' (first | (with_reducible (first | assumption | exact Blk.alloc_new _ _ _ (by first | rfl | (simp; done) | omega) | apply Blk.drewN | apply Blk.drew | apply Blk.alloc_old | apply Blk.set_same | apply Blk.set_other)) | (show (_ : Nat) ≠ _; first | omega | (simp; done) | (simp; omega)) | ((simp only [List.setIfInBounds_toArray, List.set_cons_succ, List.set_cons_zero]); (with_reducible exact rfl)) | (with_reducible exact rfl) | (show (_ : Array Value) = _; exact rfl)))) hb2 (by first | (simp; done) | omega | (simp; omega))
  have g2 : Below w.heap.size w w2 := by refine Below.trans ?_ (hb2.mono ?_) <;> (repeat' (first | (with_reducible (first | exact Below.refl _ _ | assumption | refine below_drewN ?_ _ | refine Below.drew ?_ | refine Below.alloc ?_ ?_ _ | refine Below.setCell ?_ ?_ _)) | go_size))
  have hz2 := hb2.size
  (try simp at hz2)
  clear hb2
  replace cA := A2.cell
  replace fA := A2.frozen
  replace zA := A2.size
  replace cW := W2.cell
  replace fW := W2.frozen
  replace zW := W2.size
  go_wp2_with fail
  refine (rnreachL r.f W p _ of hW Hp.out).mono ?_
  rintro e w3 ⟨rfl, hb3⟩
  have g3 : Below w.heap.size w w3 := by refine Below.trans ?_ (hb3.mono ?_) <;> (repeat' (first | (with_reducible (first | exact Below.refl _ _ | assumption | refine below_drewN ?_ _ | refine Below.drew ?_ | refine Below.alloc ?_ ?_ _ | refine Below.setCell ?_ ?_ _)) | go_size))
  have hz3 := hb3.size
  (try simp at hz3)
  clear hb3
  go_wp2
  go_ret
  exact ⟨rfl, by (repeat' (first | (with_reducible (first | exact Below.refl _ _ | assumption | refine below_drewN ?_ _ | refine Below.drew ?_ | refine Below.alloc ?_ ?_ _ | refine Below.setCell ?_ ?_ _)) | go_size))⟩
theorem rrunreach_tf (r : RN) (W p q : Int) (w : World) (hb : r.b = true) (ot : r.t.ok) (hW : In128 W) (hq : r.t.reach W = q) (of : r.f.ok) (hp : r.f.reach W = p) (hlt : decide (q < p) = false) :
    Calls Try.prog 41 #[rrunv r, nv W] w fun e w' => e = .returned (.int .u64 q) ∧ Below w.heap.size w w' := by
  have Hq := hide hq; clear hq; have Hp := hide hp; clear hp
  rw [rrunv, hb]
  clear hb
  go_enter Try.func41, Try.ntmps41
  go_wp2_with fail
  refine (rnreachL r.t W q _ ot hW Hq.out).mono ?_
  rintro e w1 ⟨rfl, hb1⟩
  have A1 : Blk w1 (w.heap.size) #[.int .u64 r.f.X, .int .u64 (dg0 (r.f.Y)), .int .u64 (dg1 (r.f.Y)), .int .u64 (dg2 (r.f.Y)), .int .u64 (dg3 (r.f.Y)), .int .u64 r.f.M, .int .u64 r.t.X, .int .u64 (dg0 (r.t.Y)), .int .u64 (dg1 (r.t.Y)), .int .u64 (dg2 (r.t.Y)), .int .u64 (dg3 (r.t.Y)), .int .u64 r.t.M, .bool true] 40 := Blk.below (by (repeat' (first | (with_reducible (first | assumption | exact Blk.alloc_new _ _ _ (by first | rfl | (simp; done) | omega) | apply Blk.drewN | apply Blk.drew | apply Blk.alloc_old | apply Blk.set_same | apply Blk.set_other)) | (show (_ : Nat) ≠ _; first | omega | (simp; done) | (simp; omega)) | ((simp only [List.setIfInBounds_toArray, List.set_cons_succ, List.set_cons_zero]); (with_reducible exact rfl)) | (with_reducible exact rfl) | (show (_ : Array Value) = _; exact rfl)))) hb1 (by first | (simp; done) | omega | (simp; omega))
  have W1 : Blk w1 (w.heap.size + 1) #[.int .u64 (dg0 (W)), .int .u64 (dg1 (W)), .int .u64 (dg2 (W)), .int .u64 (dg3 (W))] 36 := Blk.below (by (repeat' (first | (with_reducible (first | assumption | exact Blk.alloc_new _ _ _ (by first | rfl | (simp; done) | omega) | apply Blk.drewN | apply Blk.drew | apply Blk.alloc_old | apply Blk.set_same | apply Blk.set_other)) | (show (_ : Nat) ≠ _; first | omega | (simp; done) | (simp; omega)) | ((simp only [List.setIfInBounds_toArray, List.set_cons_succ, List.set_cons_zero]); (with_reducible exact rfl)) | (with_reducible exact rfl) | (show (_ : Array Value) = _; exact rfl)))) hb1 (by first | (simp; done) | omega | (simp; omega))
  have g1 : Below w.heap.size w w1 := by refine Below.trans ?_ (hb1.mono ?_) <;> (repeat' (first | (with_reducible (first | exact Below.refl _ _ | assumption | refine below_drewN ?_ _ | refine Below.drew ?_ | refine Below.alloc ?_ ?_ _ | refine Below.setCell ?_ ?_ _)) | go_size))
  have hz1 := hb1.size
  (try simp at hz1)
  clear hb1
  replace cA := A1.cell
  replace fA := A1.frozen
  replace zA := A1.size
  replace cW := W1.cell
  replace fW := W1.frozen
  replace zW := W1.size
  go_wp2_with fail
  refine (rnreachL r.f W p _ of hW Hp.out).mono ?_
  rintro e w2 ⟨rfl, hb2⟩
  have A2 : Blk w2 (w.heap.size) #[.int .u64 r.f.X, .int .u64 (dg0 (r.f.Y)), .int .u64 (dg1 (r.f.Y)), .int .u64 (dg2 (r.f.Y)), .int .u64 (dg3 (r.f.Y)), .int .u64 r.f.M, .int .u64 r.t.X, .int .u64 (dg0 (r.t.Y)), .int .u64 (dg1 (r.t.Y)), .int .u64 (dg2 (r.t.Y)), .int .u64 (dg3 (r.t.Y)), .int .u64 r.t.M, .bool true] 40 := Blk.below (by (repeat' (first | (with_reducible (first | assumption | exact Blk.alloc_new _ _ _ (by first | rfl | (simp; done) | omega) | apply Blk.drewN | apply Blk.drew | apply Blk.alloc_old | apply Blk.set_same | apply Blk.set_other)) | (show (_ : Nat) ≠ _; first | omega | (simp; done) | (simp; omega)) | ((simp only [List.setIfInBounds_toArray, List.set_cons_succ, List.set_cons_zero]); (with_reducible exact rfl)) | (with_reducible exact rfl) | (show (_ : Array Value) = _; exact rfl)))) hb2 (by first | (simp; done) | omega | (simp; omega))
  have W2 : Blk w2 (w.heap.size + 1) #[.int .u64 (dg0 (W)), .int .u64 (dg1 (W)), .int .u64 (dg2 (W)), .int .u64 (dg3 (W))] 36 := Blk.below (by (repeat' (first | (with_reducible (first | assumption | exact Blk.alloc_new _ _ _ (by first | rfl | (simp; done) | omega) | apply Blk.drewN | apply Blk.drew | apply Blk.alloc_old | apply Blk.set_same | apply Blk.set_other)) | (show (_ : Nat) ≠ _; first | omega | (simp; done) | (simp; omega)) | ((simp only [List.setIfInBounds_toArray, List.set_cons_succ, List.set_cons_zero]); (with_reducible exact rfl)) | (with_reducible exact rfl) | (show (_ : Array Value) = _; exact rfl)))) hb2 (by first | (simp; done) | omega | (simp; omega))
  have g2 : Below w.heap.size w w2 := by refine Below.trans ?_ (hb2.mono ?_) <;> (repeat' (first | (with_reducible (first | exact Below.refl _ _ | assumption | refine below_drewN ?_ _ | refine Below.drew ?_ | refine Below.alloc ?_ ?_ _ | refine Below.setCell ?_ ?_ _)) | go_size))
  have hz2 := hb2.size
  (try simp at hz2)
  clear hb2
  replace cA := A2.cell
  replace fA := A2.frozen
  replace zA := A2.size
  replace cW := W2.cell
  replace fW := W2.frozen
  replace zW := W2.size
  go_wp2
  go_ret
  exact ⟨rfl, by (repeat' (first | (with_reducible (first | exact Below.refl _ _ | assumption | refine below_drewN ?_ _ | refine Below.drew ?_ | refine Below.alloc ?_ ?_ _ | refine Below.setCell ?_ ?_ _)) | go_size))⟩
theorem rrunreach (r : RN) (W s : Int) (w : World) (h : r.ok) (hW : In128 W) (hs : r.reach W = s) :
    Calls Try.prog 41 #[rrunv r, nv W] w fun e w' => e = .returned (.int .u64 s) ∧ Below w.heap.size w w' := by
  unfold RN.reach at hs
  rcases hb : r.b with _ | _
  · rw [hb] at hs; simp only [Bool.false_eq_true, if_false] at hs
    exact rrunreach_f r W 0 s w hb h.2 hW hs
  · rw [hb] at hs; simp only [if_true] at hs
    by_cases hlt : r.t.reach W < r.f.reach W
    · obtain rfl : s = r.f.reach W := by omega
      exact rrunreach_tt r W _ _ w hb h.2 hW rfl h.1 rfl (decide_eq_true hlt)
    · obtain rfl : s = r.t.reach W := by omega
      exact rrunreach_tf r W _ _ w hb h.2 hW rfl h.1 rfl (decide_eq_false hlt)
end Go.Proofs.Ytnkpoelljfbefaa
