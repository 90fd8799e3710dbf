/-
  The walks of lines.At, Reach, and of their references. Conditions: fields in range.
-/
import Derived.Test.YtaaoadbcgnedkaaRun
namespace Go.Proofs.Ytaaoadbcgnedkaa
open Go.RowKit Go.Sort
set_option linter.unusedVariables false
set_option linter.unusedSimpArgs false
theorem all_false (r : RN) (w : World) (hb : r.b = false) :
    Calls Try.prog 51 #[runv r] w fun e w' => e = .returned (.agg #[.int .u64 r.t.X, .int .u64 (hi (r.t.Y)), .int .u64 (lo (r.t.Y)), .int .u64 r.t.M, .int .u64 r.t.X, .int .u64 (hi (r.t.Y)), .int .u64 (lo (r.t.Y)), .int .u64 r.t.M]) ∧ Below w.heap.size w w' := by
  rw [runv, hb]
  clear hb
  go_enter Try.func51, Try.ntmps51
  go_wp2
  refine bp_forget (fun v => Below w.heap.size w v ∧ Blk v (w.heap.size + 1) #[.int .u64 r.t.X, .int .u64 (hi (r.t.Y)), .int .u64 (lo (r.t.Y)), .int .u64 r.t.M, .int .u64 r.t.X, .int .u64 (hi (r.t.Y)), .int .u64 (lo (r.t.Y)), .int .u64 r.t.M] 97) ⟨by (repeat' (first | (with_reducible (first | exact Below.refl _ _ | assumption | refine below_drewN ?_ _ | refine Below.drew ?_ | refine Below.alloc ?_ ?_ _ | refine Below.setCell ?_ ?_ _)) | go_size)), by (repeat' (first | (with_reducible (first | assumption | exact Blk.alloc_new _ _ _ (by first | rfl | (simp; done) | omega) | apply Blk.drewN | apply Blk.drew | apply Blk.alloc_old | apply Blk.set_same | apply Blk.set_other)) | (show (_ : Nat) ≠ _; first | omega | (simp; done) | (simp; omega)) | ((simp only [List.setIfInBounds_toArray, List.set_cons_succ, List.set_cons_zero]); (with_reducible exact rfl)) | (with_reducible exact rfl) | (show (_ : Array Value) = _; exact rfl)))⟩ ?_
  rintro v ⟨gv, Bv⟩
  have cv := Bv.cell
  refine bodyPost_ret (v := .agg #[.int .u64 r.t.X, .int .u64 (hi (r.t.Y)), .int .u64 (lo (r.t.Y)), .int .u64 r.t.M, .int .u64 r.t.X, .int .u64 (hi (r.t.Y)), .int .u64 (lo (r.t.Y)), .int .u64 r.t.M]) (by simp [results, Try.results51, go_sem, cv]) rfl ⟨rfl, gv⟩
theorem all_true (r : RN) (w : World) (hb : r.b = true) :
    Calls Try.prog 51 #[runv r] w fun e w' => e = .returned (.agg #[.int .u64 r.f.X, .int .u64 (hi (r.f.Y)), .int .u64 (lo (r.f.Y)), .int .u64 r.f.M, .int .u64 r.t.X, .int .u64 (hi (r.t.Y)), .int .u64 (lo (r.t.Y)), .int .u64 r.t.M]) ∧ Below w.heap.size w w' := by
  rw [runv, hb]
  clear hb
  go_enter Try.func51, Try.ntmps51
  go_wp2
  refine bp_forget (fun v => Below w.heap.size w v ∧ Blk v (w.heap.size + 1) #[.int .u64 r.f.X, .int .u64 (hi (r.f.Y)), .int .u64 (lo (r.f.Y)), .int .u64 r.f.M, .int .u64 r.t.X, .int .u64 (hi (r.t.Y)), .int .u64 (lo (r.t.Y)), .int .u64 r.t.M] 97) ⟨by (repeat' (first | (with_reducible (first | exact Below.refl _ _ | assumption | refine below_drewN ?_ _ | refine Below.drew ?_ | refine Below.alloc ?_ ?_ _ | refine Below.setCell ?_ ?_ _)) | go_size)), by (repeat' (first | (with_reducible (first | assumption | exact Blk.alloc_new _ _ _ (by first | rfl | (simp; done) | omega) | apply Blk.drewN | apply Blk.drew | apply Blk.alloc_old | apply Blk.set_same | apply Blk.set_other)) | (show (_ : Nat) ≠ _; first | omega | (simp; done) | (simp; omega)) | ((simp only [List.setIfInBounds_toArray, List.set_cons_succ, List.set_cons_zero]); (with_reducible exact rfl)) | (with_reducible exact rfl) | (show (_ : Array Value) = _; exact rfl)))⟩ ?_
  rintro v ⟨gv, Bv⟩
  have cv := Bv.cell
  refine bodyPost_ret (v := .agg #[.int .u64 r.f.X, .int .u64 (hi (r.f.Y)), .int .u64 (lo (r.f.Y)), .int .u64 r.f.M, .int .u64 r.t.X, .int .u64 (hi (r.t.Y)), .int .u64 (lo (r.t.Y)), .int .u64 r.t.M]) (by simp [results, Try.results51, go_sem, cv]) rfl ⟨rfl, gv⟩
theorem all_any (r : RN) (g : LN) (w : World) (hg : (if r.b = true then r.f else r.t) = g) :
    Calls Try.prog 51 #[runv r] w fun e w' => e = .returned (.agg #[.int .u64 g.X, .int .u64 (hi (g.Y)), .int .u64 (lo (g.Y)), .int .u64 g.M, .int .u64 r.t.X, .int .u64 (hi (r.t.Y)), .int .u64 (lo (r.t.Y)), .int .u64 r.t.M]) ∧ Below w.heap.size w w' := by
  subst hg
  rcases h : r.b with _ | _
  · simp only [Bool.false_eq_true, if_false]; exact all_false r w h
  · simp only [if_true]; exact all_true r w h
theorem natL (l : LN) (x s : Int) (w : World) (h : l.ok) (hx : 0 ≤ x ∧ x ≤ 18446744073709551615) (hs : l.at x = s) :
    Calls Try.prog 52 #[lnv l, .int .u64 x] w fun e w' => e = .returned (wv s) ∧ Below w.heap.size w w' := lat l.X l.Y l.M x s w h.1 h.2.1 h.2.2 hx hs
theorem rnatL (l : LN) (x s : Int) (w : World) (h : l.ok) (hx : 0 ≤ x ∧ x ≤ 18446744073709551615) (hs : l.at x = s) :
    Calls Try.prog 54 #[rlnv l, .int .u64 x] w fun e w' => e = .returned (nv s) ∧ Below w.heap.size w w' := rlat l.X l.Y l.M x s w h.1 h.2.1 h.2.2 hx hs
theorem nreachL (l : LN) (W s : Int) (w : World) (h : l.ok) (hW : In128 W) (hs : l.reach W = s) :
    Calls Try.prog 53 #[lnv l, wv W] w fun e w' => e = .returned (.int .u64 s) ∧ Below w.heap.size w w' := lreach l.X l.Y l.M W s w h.1 h.2.1 h.2.2 hW hs
theorem rnreachL (l : LN) (W s : Int) (w : World) (h : l.ok) (hW : In128 W) (hs : l.reach W = s) :
    Calls Try.prog 55 #[rlnv l, nv W] w fun e w' => e = .returned (.int .u64 s) ∧ Below w.heap.size w w' := rlreach l.X l.Y l.M W s w h.1 h.2.1 h.2.2 hW hs
set_option maxHeartbeats 4000000 in
theorem runat_lt (r : RN) (g : LN) (x p q c : Int) (w : World) (hg : (if r.b = true then r.f else r.t) = g) (og : g.ok) (ot : r.t.ok) (hx : 0 ≤ x ∧ x ≤ 18446744073709551615) (hp : g.at x = p) (hq : r.t.at x = q) (p1 : In128 p) (q1 : In128 q) (hc : cmp p q = c) (hlt : decide (c < 0) = true) :
    Calls Try.prog 22 #[runv r, .int .u64 x] w fun e w' => e = .returned (wv p) ∧ Below w.heap.size w w' := by
  have Hg := hide hg; have Hp := hide hp; have Hq := hide hq; have Hc := hide hc; clear hg hp hq hc
  go_enter Try.func22, Try.ntmps22
  go_wp2_with fail
  refine (all_any r g _ Hg.out).mono ?_
  rintro e w1 ⟨rfl, hb1⟩
  have R1 : Blk w1 (w.heap.size + 1) #[.int .u64 0, .int .u64 0] 26 := Blk.below (by (repeat' (first | (with_reducible (first | assumption | exact Blk.alloc_new _ _ _ (by first | rfl | (simp; done) | omega) | apply Blk.drewN | apply Blk.drew | apply Blk.alloc_old | apply Blk.set_same | apply Blk.set_other)) | (show (_ : Nat) ≠ _; first | omega | (simp; done) | (simp; omega)) | ((simp only [List.setIfInBounds_toArray, List.set_cons_succ, List.set_cons_zero]); (with_reducible exact rfl)) | (with_reducible exact rfl) | (show (_ : Array Value) = _; exact rfl)))) hb1 (by first | (simp; done) | omega | (simp; omega))
  have g1 : Below w.heap.size w w1 := by refine Below.trans ?_ (hb1.mono ?_) <;> (repeat' (first | (with_reducible (first | exact Below.refl _ _ | assumption | refine below_drewN ?_ _ | refine Below.drew ?_ | refine Below.alloc ?_ ?_ _ | refine Below.setCell ?_ ?_ _)) | go_size))
  have hz1 := hb1.size
  (try simp at hz1)
  clear hb1
  replace cR := R1.cell
  replace fR := R1.frozen
  replace zR := R1.size
  go_upto_region 2 with (fail)
  refine wp_forget (fun v => Below w.heap.size w v ∧ Blk v (w.heap.size + 1) #[.int .u64 0, .int .u64 0] 26 ∧ Blk v (w1.heap.size) #[.int .u64 g.X, .int .u64 (hi (g.Y)), .int .u64 (lo (g.Y)), .int .u64 g.M, .int .u64 r.t.X, .int .u64 (hi (r.t.Y)), .int .u64 (lo (r.t.Y)), .int .u64 r.t.M] 97) ⟨by (repeat' (first | (with_reducible (first | exact Below.refl _ _ | assumption | refine below_drewN ?_ _ | refine Below.drew ?_ | refine Below.alloc ?_ ?_ _ | refine Below.setCell ?_ ?_ _)) | go_size)), by (repeat' (first | (with_reducible (first | assumption | exact Blk.alloc_new _ _ _ (by first | rfl | (simp; done) | omega) | apply Blk.drewN | apply Blk.drew | apply Blk.alloc_old | apply Blk.set_same | apply Blk.set_other)) | (show (_ : Nat) ≠ _; first | omega | (simp; done) | (simp; omega)) | ((simp only [List.setIfInBounds_toArray, List.set_cons_succ, List.set_cons_zero]); (with_reducible exact rfl)) | (with_reducible exact rfl) | (show (_ : Array Value) = _; exact rfl))), by (repeat' (first | (with_reducible (first | assumption | exact Blk.alloc_new _ _ _ (by first | rfl | (simp; done) | omega) | apply Blk.drewN | apply Blk.drew | apply Blk.alloc_old | apply Blk.set_same | apply Blk.set_other)) | (show (_ : Nat) ≠ _; first | omega | (simp; done) | (simp; omega)) | ((simp only [List.setIfInBounds_toArray, List.set_cons_succ, List.set_cons_zero]); (with_reducible exact rfl)) | (with_reducible exact rfl) | (show (_ : Array Value) = _; exact rfl)))⟩ ?_
  rintro w2 ⟨g2, R2, L2⟩
  have hz2 := g2.size
  replace cR := R2.cell
  replace fR := R2.frozen
  replace zR := R2.size
  have cL := L2.cell
  have fL := L2.frozen
  have zL := L2.size
  go_cut [6, 7] (fun p6 p7 wx => ∃ X Y, p6 = .pointer (some ⟨X, 0, none⟩) ∧ p7 = .pointer (some ⟨Y, 0, none⟩) ∧ Below w.heap.size w wx ∧ Blk wx (w.heap.size + 1) #[.int .u64 0, .int .u64 0] 26 ∧ Blk wx X #[.int .u64 (hi (p)), .int .u64 (lo (p))] 26 ∧ Blk wx Y #[.int .u64 (hi (q)), .int .u64 (lo (q))] 26)
  case first =>
    go_region_held3 (fun v => (∀ i, v.cell? ⟨w1.heap.size, i, none⟩ = #[.int .u64 g.X, .int .u64 (hi (g.Y)), .int .u64 (lo (g.Y)), .int .u64 g.M, .int .u64 r.t.X, .int .u64 (hi (r.t.Y)), .int .u64 (lo (r.t.Y)), .int .u64 r.t.M][i]?) ∧ w1.heap.size < v.heap.size ∧ Blk v (w1.heap.size) #[.int .u64 g.X, .int .u64 (hi (g.Y)), .int .u64 (lo (g.Y)), .int .u64 g.M, .int .u64 r.t.X, .int .u64 (hi (r.t.Y)), .int .u64 (lo (r.t.Y)), .int .u64 r.t.M] 97 ∧ Below w.heap.size w v)
      (first
        | (refine ⟨?_, ?_, ?_, ?_⟩ <;> first | (with_reducible assumption) | ((repeat' (first | (with_reducible (first | assumption | exact Blk.alloc_new _ _ _ (by first | rfl | (simp; done) | omega) | apply Blk.drewN | apply Blk.drew | apply Blk.alloc_old | apply Blk.set_same | apply Blk.set_other)) | (show (_ : Nat) ≠ _; first | omega | (simp; done) | (simp; omega)) | ((simp only [List.setIfInBounds_toArray, List.set_cons_succ, List.set_cons_zero]); (with_reducible exact rfl)) | (with_reducible exact rfl) | (show (_ : Array Value) = _; exact rfl))); done) | ((repeat' (first | (with_reducible (first | exact Below.refl _ _ | assumption | refine below_drewN ?_ _ | refine Below.drew ?_ | refine Below.alloc ?_ ?_ _ | refine Below.setCell ?_ ?_ _)) | go_size)); done) | omega | (go_simp; done) | (simp; done) | (exact Blk.cell (by (repeat' (first | (with_reducible (first | assumption | exact Blk.alloc_new _ _ _ (by first | rfl | (simp; done) | omega) | apply Blk.drewN | apply Blk.drew | apply Blk.alloc_old | apply Blk.set_same | apply Blk.set_other)) | (show (_ : Nat) ≠ _; first | omega | (simp; done) | (simp; omega)) | ((simp only [List.setIfInBounds_toArray, List.set_cons_succ, List.set_cons_zero]); (with_reducible exact rfl)) | (with_reducible exact rfl) | (show (_ : Array Value) = _; exact rfl)))))))
      (first
        | (go_at_call 52; (with_reducible refine (natL g x p _ og hx Hp.out).mono ?_); rintro e w' ⟨rfl, hb'⟩; have hbx : Below w.heap.size w w' := (by refine Below.trans ?_ (Below.mono hb' ?_) <;> (repeat' (first | (with_reducible (first | exact Below.refl _ _ | assumption | refine below_drewN ?_ _ | refine Below.drew ?_ | refine Below.alloc ?_ ?_ _ | refine Below.setCell ?_ ?_ _)) | go_size))); have hbs := hb'.size; (try simp at hbs); (first | ((first | have hX := Blk.below (hX) hb' (by first | (simp; done) | omega | (simp; omega)) | have hX := Blk.below (hX.alloc_old _) hb' (by first | (simp; done) | omega | (simp; omega)) | have hX := Blk.below ((hX.alloc_old _).alloc_old _) hb' (by first | (simp; done) | omega | (simp; omega)) | have hX := Blk.below (hX.drew) hb' (by first | (simp; done) | omega | (simp; omega))); (first | have hY := Blk.below (hY) hb' (by first | (simp; done) | omega | (simp; omega)) | have hY := Blk.below (hY.alloc_old _) hb' (by first | (simp; done) | omega | (simp; omega)) | have hY := Blk.below ((hY.alloc_old _).alloc_old _) hb' (by first | (simp; done) | omega | (simp; omega)) | have hY := Blk.below (hY.drew) hb' (by first | (simp; done) | omega | (simp; omega)) | have hY := Blk.below (Blk.alloc_new _ _ _ rfl) hb' (by first | (simp; done) | omega | (simp; omega)) | skip)) | (have hX := Blk.below (Blk.alloc_old (Blk.alloc_new _ _ _ rfl) _) hb' (by first | (simp; done) | omega | (simp; omega)); have hY := Blk.below (Blk.alloc_new _ _ _ rfl) hb' (by first | (simp; done) | omega | (simp; omega))) | (have hX := Blk.below (Blk.drew (Blk.alloc_old (Blk.alloc_new _ _ _ rfl) _)) hb' (by first | (simp; done) | omega | (simp; omega)); have hY := Blk.below (Blk.drew (Blk.alloc_new _ _ _ rfl)) hb' (by first | (simp; done) | omega | (simp; omega))) | have hX := Blk.below (Blk.alloc_new _ _ _ rfl) hb' (by first | (simp; done) | omega | (simp; omega)) | have hX := Blk.below (Blk.drew (Blk.alloc_new _ _ _ rfl)) hb' (by first | (simp; done) | omega | (simp; omega)) | skip); (try simp only [World.size_alloc] at hX); (try simp only [World.size_alloc] at hY); (try (have cX := hX.cell; have fX := hX.frozen; have zX := hX.size)); (try (have cY := hY.cell; have fY := hY.frozen; have zY := hY.size)); have hkL : Blk w' (w1.heap.size) #[.int .u64 g.X, .int .u64 (hi (g.Y)), .int .u64 (lo (g.Y)), .int .u64 g.M, .int .u64 r.t.X, .int .u64 (hi (r.t.Y)), .int .u64 (lo (r.t.Y)), .int .u64 r.t.M] 97 := Blk.below (by (repeat' (first | (with_reducible (first | assumption | exact Blk.alloc_new _ _ _ (by first | rfl | (simp; done) | omega) | apply Blk.drewN | apply Blk.drew | apply Blk.alloc_old | apply Blk.set_same | apply Blk.set_other)) | (show (_ : Nat) ≠ _; first | omega | (simp; done) | (simp; omega)) | ((simp only [List.setIfInBounds_toArray, List.set_cons_succ, List.set_cons_zero]); (with_reducible exact rfl)) | (with_reducible exact rfl) | (show (_ : Array Value) = _; exact rfl)))) hb' (by first | (simp; done) | omega | (simp; omega)); have hqL := hkL.cell; have hzL := hkL.size; have hkR : Blk w' (w.heap.size + 1) #[.int .u64 0, .int .u64 0] 26 := Blk.below (by (repeat' (first | (with_reducible (first | assumption | exact Blk.alloc_new _ _ _ (by first | rfl | (simp; done) | omega) | apply Blk.drewN | apply Blk.drew | apply Blk.alloc_old | apply Blk.set_same | apply Blk.set_other)) | (show (_ : Nat) ≠ _; first | omega | (simp; done) | (simp; omega)) | ((simp only [List.setIfInBounds_toArray, List.set_cons_succ, List.set_cons_zero]); (with_reducible exact rfl)) | (with_reducible exact rfl) | (show (_ : Array Value) = _; exact rfl)))) hb' (by first | (simp; done) | omega | (simp; omega)); have cR := hkR.cell; have fR := hkR.frozen; have zR := hkR.size; clear hb')
        | (go_at_call 52; (with_reducible refine (natL r.t x q _ ot hx Hq.out).mono ?_); rintro e w' ⟨rfl, hb'⟩; have hbx : Below w.heap.size w w' := (by refine Below.trans ?_ (Below.mono hb' ?_) <;> (repeat' (first | (with_reducible (first | exact Below.refl _ _ | assumption | refine below_drewN ?_ _ | refine Below.drew ?_ | refine Below.alloc ?_ ?_ _ | refine Below.setCell ?_ ?_ _)) | go_size))); have hbs := hb'.size; (try simp at hbs); (first | ((first | have hX := Blk.below (hX) hb' (by first | (simp; done) | omega | (simp; omega)) | have hX := Blk.below (hX.alloc_old _) hb' (by first | (simp; done) | omega | (simp; omega)) | have hX := Blk.below ((hX.alloc_old _).alloc_old _) hb' (by first | (simp; done) | omega | (simp; omega)) | have hX := Blk.below (hX.drew) hb' (by first | (simp; done) | omega | (simp; omega))); (first | have hY := Blk.below (hY) hb' (by first | (simp; done) | omega | (simp; omega)) | have hY := Blk.below (hY.alloc_old _) hb' (by first | (simp; done) | omega | (simp; omega)) | have hY := Blk.below ((hY.alloc_old _).alloc_old _) hb' (by first | (simp; done) | omega | (simp; omega)) | have hY := Blk.below (hY.drew) hb' (by first | (simp; done) | omega | (simp; omega)) | have hY := Blk.below (Blk.alloc_new _ _ _ rfl) hb' (by first | (simp; done) | omega | (simp; omega)) | skip)) | (have hX := Blk.below (Blk.alloc_old (Blk.alloc_new _ _ _ rfl) _) hb' (by first | (simp; done) | omega | (simp; omega)); have hY := Blk.below (Blk.alloc_new _ _ _ rfl) hb' (by first | (simp; done) | omega | (simp; omega))) | (have hX := Blk.below (Blk.drew (Blk.alloc_old (Blk.alloc_new _ _ _ rfl) _)) hb' (by first | (simp; done) | omega | (simp; omega)); have hY := Blk.below (Blk.drew (Blk.alloc_new _ _ _ rfl)) hb' (by first | (simp; done) | omega | (simp; omega))) | have hX := Blk.below (Blk.alloc_new _ _ _ rfl) hb' (by first | (simp; done) | omega | (simp; omega)) | have hX := Blk.below (Blk.drew (Blk.alloc_new _ _ _ rfl)) hb' (by first | (simp; done) | omega | (simp; omega)) | skip); (try simp only [World.size_alloc] at hX); (try simp only [World.size_alloc] at hY); (try (have cX := hX.cell; have fX := hX.frozen; have zX := hX.size)); (try (have cY := hY.cell; have fY := hY.frozen; have zY := hY.size)); have hkL : Blk w' (w1.heap.size) #[.int .u64 g.X, .int .u64 (hi (g.Y)), .int .u64 (lo (g.Y)), .int .u64 g.M, .int .u64 r.t.X, .int .u64 (hi (r.t.Y)), .int .u64 (lo (r.t.Y)), .int .u64 r.t.M] 97 := Blk.below (by (repeat' (first | (with_reducible (first | assumption | exact Blk.alloc_new _ _ _ (by first | rfl | (simp; done) | omega) | apply Blk.drewN | apply Blk.drew | apply Blk.alloc_old | apply Blk.set_same | apply Blk.set_other)) | (show (_ : Nat) ≠ _; first | omega | (simp; done) | (simp; omega)) | ((simp only [List.setIfInBounds_toArray, List.set_cons_succ, List.set_cons_zero]); (with_reducible exact rfl)) | (with_reducible exact rfl) | (show (_ : Array Value) = _; exact rfl)))) hb' (by first | (simp; done) | omega | (simp; omega)); have hqL := hkL.cell; have hzL := hkL.size; have hkR : Blk w' (w.heap.size + 1) #[.int .u64 0, .int .u64 0] 26 := Blk.below (by (repeat' (first | (with_reducible (first | assumption | exact Blk.alloc_new _ _ _ (by first | rfl | (simp; done) | omega) | apply Blk.drewN | apply Blk.drew | apply Blk.alloc_old | apply Blk.set_same | apply Blk.set_other)) | (show (_ : Nat) ≠ _; first | omega | (simp; done) | (simp; omega)) | ((simp only [List.setIfInBounds_toArray, List.set_cons_succ, List.set_cons_zero]); (with_reducible exact rfl)) | (with_reducible exact rfl) | (show (_ : Array Value) = _; exact rfl)))) hb' (by first | (simp; done) | omega | (simp; omega)); have cR := hkR.cell; have fR := hkR.frozen; have zR := hkR.size; clear hb'))
    all_goals
      go_wp2_with fail
      go_meet
      exact ⟨_, _, rfl, rfl, by (repeat' (first | (with_reducible (first | exact Below.refl _ _ | assumption | refine below_drewN ?_ _ | refine Below.drew ?_ | refine Below.alloc ?_ ?_ _ | refine Below.setCell ?_ ?_ _)) | go_size)), by (repeat' (first | (with_reducible (first | assumption | exact Blk.alloc_new _ _ _ (by first | rfl | (simp; done) | omega) | apply Blk.drewN | apply Blk.drew | apply Blk.alloc_old | apply Blk.set_same | apply Blk.set_other)) | (show (_ : Nat) ≠ _; first | omega | (simp; done) | (simp; omega)) | ((simp only [List.setIfInBounds_toArray, List.set_cons_succ, List.set_cons_zero]); (with_reducible exact rfl)) | (with_reducible exact rfl) | (show (_ : Array Value) = _; exact rfl))), by (repeat' (first | (with_reducible (first | assumption | exact Blk.alloc_new _ _ _ (by first | rfl | (simp; done) | omega) | apply Blk.drewN | apply Blk.drew | apply Blk.alloc_old | apply Blk.set_same | apply Blk.set_other)) | (show (_ : Nat) ≠ _; first | omega | (simp; done) | (simp; omega)) | ((simp only [List.setIfInBounds_toArray, List.set_cons_succ, List.set_cons_zero]); (with_reducible exact rfl)) | (with_reducible exact rfl) | (show (_ : Array Value) = _; exact rfl))), by (repeat' (first | (with_reducible (first | assumption | exact Blk.alloc_new _ _ _ (by first | rfl | (simp; done) | omega) | apply Blk.drewN | apply Blk.drew | apply Blk.alloc_old | apply Blk.set_same | apply Blk.set_other)) | (show (_ : Nat) ≠ _; first | omega | (simp; done) | (simp; omega)) | ((simp only [List.setIfInBounds_toArray, List.set_cons_succ, List.set_cons_zero]); (with_reducible exact rfl)) | (with_reducible exact rfl) | (show (_ : Array Value) = _; exact rfl)))⟩
  case rest =>
    clear cL fL zL cR fR zR R2 L2
    obtain ⟨X, Y, rfl, rfl, g3, R3, X3, Y3⟩ := hcut
    have cX := X3.cell; have cY := Y3.cell; have zX := X3.size; have zY := Y3.size; have cR := R3.cell; have fR := R3.frozen; have zR := R3.size
    go_wp2_with fail
    refine (wcmpC p q c _ p1 q1 Hc.out).mono ?_
    rintro e w4 ⟨rfl, hb4⟩
    have R4 : Blk w4 (w.heap.size + 1) #[.int .u64 0, .int .u64 0] 26 := Blk.below (by (repeat' (first | (with_reducible (first | assumption | exact Blk.alloc_new _ _ _ (by first | rfl | (simp; done) | omega) | apply Blk.drewN | apply Blk.drew | apply Blk.alloc_old | apply Blk.set_same | apply Blk.set_other)) | (show (_ : Nat) ≠ _; first | omega | (simp; done) | (simp; omega)) | ((simp only [List.setIfInBounds_toArray, List.set_cons_succ, List.set_cons_zero]); (with_reducible exact rfl)) | (with_reducible exact rfl) | (show (_ : Array Value) = _; exact rfl)))) hb4 (by first | (simp; done) | omega | (simp; omega))
    have X4 : Blk w4 (X) #[.int .u64 (hi (p)), .int .u64 (lo (p))] 26 := Blk.below (by (repeat' (first | (with_reducible (first | assumption | exact Blk.alloc_new _ _ _ (by first | rfl | (simp; done) | omega) | apply Blk.drewN | apply Blk.drew | apply Blk.alloc_old | apply Blk.set_same | apply Blk.set_other)) | (show (_ : Nat) ≠ _; first | omega | (simp; done) | (simp; omega)) | ((simp only [List.setIfInBounds_toArray, List.set_cons_succ, List.set_cons_zero]); (with_reducible exact rfl)) | (with_reducible exact rfl) | (show (_ : Array Value) = _; exact rfl)))) hb4 (by first | (simp; done) | omega | (simp; omega))
    have Y4 : Blk w4 (Y) #[.int .u64 (hi (q)), .int .u64 (lo (q))] 26 := Blk.below (by (repeat' (first | (with_reducible (first | assumption | exact Blk.alloc_new _ _ _ (by first | rfl | (simp; done) | omega) | apply Blk.drewN | apply Blk.drew | apply Blk.alloc_old | apply Blk.set_same | apply Blk.set_other)) | (show (_ : Nat) ≠ _; first | omega | (simp; done) | (simp; omega)) | ((simp only [List.setIfInBounds_toArray, List.set_cons_succ, List.set_cons_zero]); (with_reducible exact rfl)) | (with_reducible exact rfl) | (show (_ : Array Value) = _; exact rfl)))) hb4 (by first | (simp; done) | omega | (simp; omega))
    have g4 : Below w.heap.size w w4 := by refine Below.trans ?_ (hb4.mono ?_) <;> (repeat' (first | (with_reducible (first | exact Below.refl _ _ | assumption | refine below_drewN ?_ _ | refine Below.drew ?_ | refine Below.alloc ?_ ?_ _ | refine Below.setCell ?_ ?_ _)) | go_size))
    have hz4 := hb4.size
    (try simp at hz4)
    clear hb4
    replace cR := R4.cell
    replace fR := R4.frozen
    replace zR := R4.size
    replace cX := X4.cell
    replace fX := X4.frozen
    replace zX := X4.size
    replace cY := Y4.cell
    replace fY := Y4.frozen
    replace zY := Y4.size
    go_wp2
    refine bp_forget (fun v => Below w.heap.size w v ∧ Blk v (w.heap.size + 1) #[.int .u64 (hi (p)), .int .u64 (lo (p))] 26) ⟨by (repeat' (first | (with_reducible (first | exact Below.refl _ _ | assumption | refine below_drewN ?_ _ | refine Below.drew ?_ | refine Below.alloc ?_ ?_ _ | refine Below.setCell ?_ ?_ _)) | go_size)), by (repeat' (first | (with_reducible (first | assumption | exact Blk.alloc_new _ _ _ (by first | rfl | (simp; done) | omega) | apply Blk.drewN | apply Blk.drew | apply Blk.alloc_old | apply Blk.set_same | apply Blk.set_other)) | (show (_ : Nat) ≠ _; first | omega | (simp; done) | (simp; omega)) | ((simp only [List.setIfInBounds_toArray, List.set_cons_succ, List.set_cons_zero]); (with_reducible exact rfl)) | (with_reducible exact rfl) | (show (_ : Array Value) = _; exact rfl)))⟩ ?_
    rintro v ⟨gv, Bv⟩
    have cv := Bv.cell
    refine bodyPost_ret (v := wv p) (by simp [results, Try.results22, go_sem, cv]) rfl ⟨rfl, gv⟩
set_option maxHeartbeats 4000000 in
theorem runat_ge (r : RN) (g : LN) (x p q c : Int) (w : World) (hg : (if r.b = true then r.f else r.t) = g) (og : g.ok) (ot : r.t.ok) (hx : 0 ≤ x ∧ x ≤ 18446744073709551615) (hp : g.at x = p) (hq : r.t.at x = q) (p1 : In128 p) (q1 : In128 q) (hc : cmp p q = c) (hlt : decide (c < 0) = false) :
    Calls Try.prog 22 #[runv r, .int .u64 x] w fun e w' => e = .returned (wv q) ∧ Below w.heap.size w w' := by
  have Hg := hide hg; have Hp := hide hp; have Hq := hide hq; have Hc := hide hc; clear hg hp hq hc
  go_enter Try.func22, Try.ntmps22
  go_wp2_with fail
  refine (all_any r g _ Hg.out).mono ?_
  rintro e w1 ⟨rfl, hb1⟩
  have R1 : Blk w1 (w.heap.size + 1) #[.int .u64 0, .int .u64 0] 26 := Blk.below (by (repeat' (first | (with_reducible (first | assumption | exact Blk.alloc_new _ _ _ (by first | rfl | (simp; done) | omega) | apply Blk.drewN | apply Blk.drew | apply Blk.alloc_old | apply Blk.set_same | apply Blk.set_other)) | (show (_ : Nat) ≠ _; first | omega | (simp; done) | (simp; omega)) | ((simp only [List.setIfInBounds_toArray, List.set_cons_succ, List.set_cons_zero]); (with_reducible exact rfl)) | (with_reducible exact rfl) | (show (_ : Array Value) = _; exact rfl)))) hb1 (by first | (simp; done) | omega | (simp; omega))
  have g1 : Below w.heap.size w w1 := by refine Below.trans ?_ (hb1.mono ?_) <;> (repeat' (first | (with_reducible (first | exact Below.refl _ _ | assumption | refine below_drewN ?_ _ | refine Below.drew ?_ | refine Below.alloc ?_ ?_ _ | refine Below.setCell ?_ ?_ _)) | go_size))
  have hz1 := hb1.size
  (try simp at hz1)
  clear hb1
  replace cR := R1.cell
  replace fR := R1.frozen
  replace zR := R1.size
  go_upto_region 2 with (fail)
  refine wp_forget (fun v => Below w.heap.size w v ∧ Blk v (w.heap.size + 1) #[.int .u64 0, .int .u64 0] 26 ∧ Blk v (w1.heap.size) #[.int .u64 g.X, .int .u64 (hi (g.Y)), .int .u64 (lo (g.Y)), .int .u64 g.M, .int .u64 r.t.X, .int .u64 (hi (r.t.Y)), .int .u64 (lo (r.t.Y)), .int .u64 r.t.M] 97) ⟨by (repeat' (first | (with_reducible (first | exact Below.refl _ _ | assumption | refine below_drewN ?_ _ | refine Below.drew ?_ | refine Below.alloc ?_ ?_ _ | refine Below.setCell ?_ ?_ _)) | go_size)), by (repeat' (first | (with_reducible (first | assumption | exact Blk.alloc_new _ _ _ (by first | rfl | (simp; done) | omega) | apply Blk.drewN | apply Blk.drew | apply Blk.alloc_old | apply Blk.set_same | apply Blk.set_other)) | (show (_ : Nat) ≠ _; first | omega | (simp; done) | (simp; omega)) | ((simp only [List.setIfInBounds_toArray, List.set_cons_succ, List.set_cons_zero]); (with_reducible exact rfl)) | (with_reducible exact rfl) | (show (_ : Array Value) = _; exact rfl))), by (repeat' (first | (with_reducible (first | assumption | exact Blk.alloc_new _ _ _ (by first | rfl | (simp; done) | omega) | apply Blk.drewN | apply Blk.drew | apply Blk.alloc_old | apply Blk.set_same | apply Blk.set_other)) | (show (_ : Nat) ≠ _; first | omega | (simp; done) | (simp; omega)) | ((simp only [List.setIfInBounds_toArray, List.set_cons_succ, List.set_cons_zero]); (with_reducible exact rfl)) | (with_reducible exact rfl) | (show (_ : Array Value) = _; exact rfl)))⟩ ?_
  rintro w2 ⟨g2, R2, L2⟩
  have hz2 := g2.size
  replace cR := R2.cell
  replace fR := R2.frozen
  replace zR := R2.size
  have cL := L2.cell
  have fL := L2.frozen
  have zL := L2.size
  go_cut [6, 7] (fun p6 p7 wx => ∃ X Y, p6 = .pointer (some ⟨X, 0, none⟩) ∧ p7 = .pointer (some ⟨Y, 0, none⟩) ∧ Below w.heap.size w wx ∧ Blk wx (w.heap.size + 1) #[.int .u64 0, .int .u64 0] 26 ∧ Blk wx X #[.int .u64 (hi (p)), .int .u64 (lo (p))] 26 ∧ Blk wx Y #[.int .u64 (hi (q)), .int .u64 (lo (q))] 26)
  case first =>
    go_region_held3 (fun v => (∀ i, v.cell? ⟨w1.heap.size, i, none⟩ = #[.int .u64 g.X, .int .u64 (hi (g.Y)), .int .u64 (lo (g.Y)), .int .u64 g.M, .int .u64 r.t.X, .int .u64 (hi (r.t.Y)), .int .u64 (lo (r.t.Y)), .int .u64 r.t.M][i]?) ∧ w1.heap.size < v.heap.size ∧ Blk v (w1.heap.size) #[.int .u64 g.X, .int .u64 (hi (g.Y)), .int .u64 (lo (g.Y)), .int .u64 g.M, .int .u64 r.t.X, .int .u64 (hi (r.t.Y)), .int .u64 (lo (r.t.Y)), .int .u64 r.t.M] 97 ∧ Below w.heap.size w v)
      (first
        | (refine ⟨?_, ?_, ?_, ?_⟩ <;> first | (with_reducible assumption) | ((repeat' (first | (with_reducible (first | assumption | exact Blk.alloc_new _ _ _ (by first | rfl | (simp; done) | omega) | apply Blk.drewN | apply Blk.drew | apply Blk.alloc_old | apply Blk.set_same | apply Blk.set_other)) | (show (_ : Nat) ≠ _; first | omega | (simp; done) | (simp; omega)) | ((simp only [List.setIfInBounds_toArray, List.set_cons_succ, List.set_cons_zero]); (with_reducible exact rfl)) | (with_reducible exact rfl) | (show (_ : Array Value) = _; exact rfl))); done) | ((repeat' (first | (with_reducible (first | exact Below.refl _ _ | assumption | refine below_drewN ?_ _ | refine Below.drew ?_ | refine Below.alloc ?_ ?_ _ | refine Below.setCell ?_ ?_ _)) | go_size)); done) | omega | (go_simp; done) | (simp; done) | (exact Blk.cell (by (repeat' (first | (with_reducible (first | assumption | exact Blk.alloc_new _ _ _ (by first | rfl | (simp; done) | omega) | apply Blk.drewN | apply Blk.drew | apply Blk.alloc_old | apply Blk.set_same | apply Blk.set_other)) | (show (_ : Nat) ≠ _; first | omega | (simp; done) | (simp; omega)) | ((simp only [List.setIfInBounds_toArray, List.set_cons_succ, List.set_cons_zero]); (with_reducible exact rfl)) | (with_reducible exact rfl) | (show (_ : Array Value) = _; exact rfl)))))))
      (first
        | (go_at_call 52; (with_reducible refine (natL g x p _ og hx Hp.out).mono ?_); rintro e w' ⟨rfl, hb'⟩; have hbx : Below w.heap.size w w' := (by refine Below.trans ?_ (Below.mono hb' ?_) <;> (repeat' (first | (with_reducible (first | exact Below.refl _ _ | assumption | refine below_drewN ?_ _ | refine Below.drew ?_ | refine Below.alloc ?_ ?_ _ | refine Below.setCell ?_ ?_ _)) | go_size))); have hbs := hb'.size; (try simp at hbs); (first | ((first | have hX := Blk.below (hX) hb' (by first | (simp; done) | omega | (simp; omega)) | have hX := Blk.below (hX.alloc_old _) hb' (by first | (simp; done) | omega | (simp; omega)) | have hX := Blk.below ((hX.alloc_old _).alloc_old _) hb' (by first | (simp; done) | omega | (simp; omega)) | have hX := Blk.below (hX.drew) hb' (by first | (simp; done) | omega | (simp; omega))); (first | have hY := Blk.below (hY) hb' (by first | (simp; done) | omega | (simp; omega)) | have hY := Blk.below (hY.alloc_old _) hb' (by first | (simp; done) | omega | (simp; omega)) | have hY := Blk.below ((hY.alloc_old _).alloc_old _) hb' (by first | (simp; done) | omega | (simp; omega)) | have hY := Blk.below (hY.drew) hb' (by first | (simp; done) | omega | (simp; omega)) | have hY := Blk.below (Blk.alloc_new _ _ _ rfl) hb' (by first | (simp; done) | omega | (simp; omega)) | skip)) | (have hX := Blk.below (Blk.alloc_old (Blk.alloc_new _ _ _ rfl) _) hb' (by first | (simp; done) | omega | (simp; omega)); have hY := Blk.below (Blk.alloc_new _ _ _ rfl) hb' (by first | (simp; done) | omega | (simp; omega))) | (have hX := Blk.below (Blk.drew (Blk.alloc_old (Blk.alloc_new _ _ _ rfl) _)) hb' (by first | (simp; done) | omega | (simp; omega)); have hY := Blk.below (Blk.drew (Blk.alloc_new _ _ _ rfl)) hb' (by first | (simp; done) | omega | (simp; omega))) | have hX := Blk.below (Blk.alloc_new _ _ _ rfl) hb' (by first | (simp; done) | omega | (simp; omega)) | have hX := Blk.below (Blk.drew (Blk.alloc_new _ _ _ rfl)) hb' (by first | (simp; done) | omega | (simp; omega)) | skip); (try simp only [World.size_alloc] at hX); (try simp only [World.size_alloc] at hY); (try (have cX := hX.cell; have fX := hX.frozen; have zX := hX.size)); (try (have cY := hY.cell; have fY := hY.frozen; have zY := hY.size)); have hkL : Blk w' (w1.heap.size) #[.int .u64 g.X, .int .u64 (hi (g.Y)), .int .u64 (lo (g.Y)), .int .u64 g.M, .int .u64 r.t.X, .int .u64 (hi (r.t.Y)), .int .u64 (lo (r.t.Y)), .int .u64 r.t.M] 97 := Blk.below (by (repeat' (first | (with_reducible (first | assumption | exact Blk.alloc_new _ _ _ (by first | rfl | (simp; done) | omega) | apply Blk.drewN | apply Blk.drew | apply Blk.alloc_old | apply Blk.set_same | apply Blk.set_other)) | (show (_ : Nat) ≠ _; first | omega | (simp; done) | (simp; omega)) | ((simp only [List.setIfInBounds_toArray, List.set_cons_succ, List.set_cons_zero]); (with_reducible exact rfl)) | (with_reducible exact rfl) | (show (_ : Array Value) = _; exact rfl)))) hb' (by first | (simp; done) | omega | (simp; omega)); have hqL := hkL.cell; have hzL := hkL.size; have hkR : Blk w' (w.heap.size + 1) #[.int .u64 0, .int .u64 0] 26 := Blk.below (by (repeat' (first | (with_reducible (first | assumption | exact Blk.alloc_new _ _ _ (by first | rfl | (simp; done) | omega) | apply Blk.drewN | apply Blk.drew | apply Blk.alloc_old | apply Blk.set_same | apply Blk.set_other)) | (show (_ : Nat) ≠ _; first | omega | (simp; done) | (simp; omega)) | ((simp only [List.setIfInBounds_toArray, List.set_cons_succ, List.set_cons_zero]); (with_reducible exact rfl)) | (with_reducible exact rfl) | (show (_ : Array Value) = _; exact rfl)))) hb' (by first | (simp; done) | omega | (simp; omega)); have cR := hkR.cell; have fR := hkR.frozen; have zR := hkR.size; clear hb')
        | (go_at_call 52; (with_reducible refine (natL r.t x q _ ot hx Hq.out).mono ?_); rintro e w' ⟨rfl, hb'⟩; have hbx : Below w.heap.size w w' := (by refine Below.trans ?_ (Below.mono hb' ?_) <;> (repeat' (first | (with_reducible (first | exact Below.refl _ _ | assumption | refine below_drewN ?_ _ | refine Below.drew ?_ | refine Below.alloc ?_ ?_ _ | refine Below.setCell ?_ ?_ _)) | go_size))); have hbs := hb'.size; (try simp at hbs); (first | ((first | have hX := Blk.below (hX) hb' (by first | (simp; done) | omega | (simp; omega)) | have hX := Blk.below (hX.alloc_old _) hb' (by first | (simp; done) | omega | (simp; omega)) | have hX := Blk.below ((hX.alloc_old _).alloc_old _) hb' (by first | (simp; done) | omega | (simp; omega)) | have hX := Blk.below (hX.drew) hb' (by first | (simp; done) | omega | (simp; omega))); (first | have hY := Blk.below (hY) hb' (by first | (simp; done) | omega | (simp; omega)) | have hY := Blk.below (hY.alloc_old _) hb' (by first | (simp; done) | omega | (simp; omega)) | have hY := Blk.below ((hY.alloc_old _).alloc_old _) hb' (by first | (simp; done) | omega | (simp; omega)) | have hY := Blk.below (hY.drew) hb' (by first | (simp; done) | omega | (simp; omega)) | have hY := Blk.below (Blk.alloc_new _ _ _ rfl) hb' (by first | (simp; done) | omega | (simp; omega)) | skip)) | (have hX := Blk.below (Blk.alloc_old (Blk.alloc_new _ _ _ rfl) _) hb' (by first | (simp; done) | omega | (simp; omega)); have hY := Blk.below (Blk.alloc_new _ _ _ rfl) hb' (by first | (simp; done) | omega | (simp; omega))) | (have hX := Blk.below (Blk.drew (Blk.alloc_old (Blk.alloc_new _ _ _ rfl) _)) hb' (by first | (simp; done) | omega | (simp; omega)); have hY := Blk.below (Blk.drew (Blk.alloc_new _ _ _ rfl)) hb' (by first | (simp; done) | omega | (simp; omega))) | have hX := Blk.below (Blk.alloc_new _ _ _ rfl) hb' (by first | (simp; done) | omega | (simp; omega)) | have hX := Blk.below (Blk.drew (Blk.alloc_new _ _ _ rfl)) hb' (by first | (simp; done) | omega | (simp; omega)) | skip); (try simp only [World.size_alloc] at hX); (try simp only [World.size_alloc] at hY); (try (have cX := hX.cell; have fX := hX.frozen; have zX := hX.size)); (try (have cY := hY.cell; have fY := hY.frozen; have zY := hY.size)); have hkL : Blk w' (w1.heap.size) #[.int .u64 g.X, .int .u64 (hi (g.Y)), .int .u64 (lo (g.Y)), .int .u64 g.M, .int .u64 r.t.X, .int .u64 (hi (r.t.Y)), .int .u64 (lo (r.t.Y)), .int .u64 r.t.M] 97 := Blk.below (by (repeat' (first | (with_reducible (first | assumption | exact Blk.alloc_new _ _ _ (by first | rfl | (simp; done) | omega) | apply Blk.drewN | apply Blk.drew | apply Blk.alloc_old | apply Blk.set_same | apply Blk.set_other)) | (show (_ : Nat) ≠ _; first | omega | (simp; done) | (simp; omega)) | ((simp only [List.setIfInBounds_toArray, List.set_cons_succ, List.set_cons_zero]); (with_reducible exact rfl)) | (with_reducible exact rfl) | (show (_ : Array Value) = _; exact rfl)))) hb' (by first | (simp; done) | omega | (simp; omega)); have hqL := hkL.cell; have hzL := hkL.size; have hkR : Blk w' (w.heap.size + 1) #[.int .u64 0, .int .u64 0] 26 := Blk.below (by (repeat' (first | (with_reducible (first | assumption | exact Blk.alloc_new _ _ _ (by first | rfl | (simp; done) | omega) | apply Blk.drewN | apply Blk.drew | apply Blk.alloc_old | apply Blk.set_same | apply Blk.set_other)) | (show (_ : Nat) ≠ _; first | omega | (simp; done) | (simp; omega)) | ((simp only [List.setIfInBounds_toArray, List.set_cons_succ, List.set_cons_zero]); (with_reducible exact rfl)) | (with_reducible exact rfl) | (show (_ : Array Value) = _; exact rfl)))) hb' (by first | (simp; done) | omega | (simp; omega)); have cR := hkR.cell; have fR := hkR.frozen; have zR := hkR.size; clear hb'))
    all_goals
      go_wp2_with fail
      go_meet
      exact ⟨_, _, rfl, rfl, by (repeat' (first | (with_reducible (first | exact Below.refl _ _ | assumption | refine below_drewN ?_ _ | refine Below.drew ?_ | refine Below.alloc ?_ ?_ _ | refine Below.setCell ?_ ?_ _)) | go_size)), by (repeat' (first | (with_reducible (first | assumption | exact Blk.alloc_new _ _ _ (by first | rfl | (simp; done) | omega) | apply Blk.drewN | apply Blk.drew | apply Blk.alloc_old | apply Blk.set_same | apply Blk.set_other)) | (show (_ : Nat) ≠ _; first | omega | (simp; done) | (simp; omega)) | ((simp only [List.setIfInBounds_toArray, List.set_cons_succ, List.set_cons_zero]); (with_reducible exact rfl)) | (with_reducible exact rfl) | (show (_ : Array Value) = _; exact rfl))), by (repeat' (first | (with_reducible (first | assumption | exact Blk.alloc_new _ _ _ (by first | rfl | (simp; done) | omega) | apply Blk.drewN | apply Blk.drew | apply Blk.alloc_old | apply Blk.set_same | apply Blk.set_other)) | (show (_ : Nat) ≠ _; first | omega | (simp; done) | (simp; omega)) | ((simp only [List.setIfInBounds_toArray, List.set_cons_succ, List.set_cons_zero]); (with_reducible exact rfl)) | (with_reducible exact rfl) | (show (_ : Array Value) = _; exact rfl))), by (repeat' (first | (with_reducible (first | assumption | exact Blk.alloc_new _ _ _ (by first | rfl | (simp; done) | omega) | apply Blk.drewN | apply Blk.drew | apply Blk.alloc_old | apply Blk.set_same | apply Blk.set_other)) | (show (_ : Nat) ≠ _; first | omega | (simp; done) | (simp; omega)) | ((simp only [List.setIfInBounds_toArray, List.set_cons_succ, List.set_cons_zero]); (with_reducible exact rfl)) | (with_reducible exact rfl) | (show (_ : Array Value) = _; exact rfl)))⟩
  case rest =>
    clear cL fL zL cR fR zR R2 L2
    obtain ⟨X, Y, rfl, rfl, g3, R3, X3, Y3⟩ := hcut
    have cX := X3.cell; have cY := Y3.cell; have zX := X3.size; have zY := Y3.size; have cR := R3.cell; have fR := R3.frozen; have zR := R3.size
    go_wp2_with fail
    refine (wcmpC p q c _ p1 q1 Hc.out).mono ?_
    rintro e w4 ⟨rfl, hb4⟩
    have R4 : Blk w4 (w.heap.size + 1) #[.int .u64 0, .int .u64 0] 26 := Blk.below (by (repeat' (first | (with_reducible (first | assumption | exact Blk.alloc_new _ _ _ (by first | rfl | (simp; done) | omega) | apply Blk.drewN | apply Blk.drew | apply Blk.alloc_old | apply Blk.set_same | apply Blk.set_other)) | (show (_ : Nat) ≠ _; first | omega | (simp; done) | (simp; omega)) | ((simp only [List.setIfInBounds_toArray, List.set_cons_succ, List.set_cons_zero]); (with_reducible exact rfl)) | (with_reducible exact rfl) | (show (_ : Array Value) = _; exact rfl)))) hb4 (by first | (simp; done) | omega | (simp; omega))
    have X4 : Blk w4 (X) #[.int .u64 (hi (p)), .int .u64 (lo (p))] 26 := Blk.below (by (repeat' (first | (with_reducible (first | assumption | exact Blk.alloc_new _ _ _ (by first | rfl | (simp; done) | omega) | apply Blk.drewN | apply Blk.drew | apply Blk.alloc_old | apply Blk.set_same | apply Blk.set_other)) | (show (_ : Nat) ≠ _; first | omega | (simp; done) | (simp; omega)) | ((simp only [List.setIfInBounds_toArray, List.set_cons_succ, List.set_cons_zero]); (with_reducible exact rfl)) | (with_reducible exact rfl) | (show (_ : Array Value) = _; exact rfl)))) hb4 (by first | (simp; done) | omega | (simp; omega))
    have Y4 : Blk w4 (Y) #[.int .u64 (hi (q)), .int .u64 (lo (q))] 26 := Blk.below (by (repeat' (first | (with_reducible (first | assumption | exact Blk.alloc_new _ _ _ (by first | rfl | (simp; done) | omega) | apply Blk.drewN | apply Blk.drew | apply Blk.alloc_old | apply Blk.set_same | apply Blk.set_other)) | (show (_ : Nat) ≠ _; first | omega | (simp; done) | (simp; omega)) | ((simp only [List.setIfInBounds_toArray, List.set_cons_succ, List.set_cons_zero]); (with_reducible exact rfl)) | (with_reducible exact rfl) | (show (_ : Array Value) = _; exact rfl)))) hb4 (by first | (simp; done) | omega | (simp; omega))
    have g4 : Below w.heap.size w w4 := by refine Below.trans ?_ (hb4.mono ?_) <;> (repeat' (first | (with_reducible (first | exact Below.refl _ _ | assumption | refine below_drewN ?_ _ | refine Below.drew ?_ | refine Below.alloc ?_ ?_ _ | refine Below.setCell ?_ ?_ _)) | go_size))
    have hz4 := hb4.size
    (try simp at hz4)
    clear hb4
    replace cR := R4.cell
    replace fR := R4.frozen
    replace zR := R4.size
    replace cX := X4.cell
    replace fX := X4.frozen
    replace zX := X4.size
    replace cY := Y4.cell
    replace fY := Y4.frozen
    replace zY := Y4.size
    go_wp2
    refine bp_forget (fun v => Below w.heap.size w v ∧ Blk v (w.heap.size + 1) #[.int .u64 (hi (q)), .int .u64 (lo (q))] 26) ⟨by (repeat' (first | (with_reducible (first | exact Below.refl _ _ | assumption | refine below_drewN ?_ _ | refine Below.drew ?_ | refine Below.alloc ?_ ?_ _ | refine Below.setCell ?_ ?_ _)) | go_size)), by (repeat' (first | (with_reducible (first | assumption | exact Blk.alloc_new _ _ _ (by first | rfl | (simp; done) | omega) | apply Blk.drewN | apply Blk.drew | apply Blk.alloc_old | apply Blk.set_same | apply Blk.set_other)) | (show (_ : Nat) ≠ _; first | omega | (simp; done) | (simp; omega)) | ((simp only [List.setIfInBounds_toArray, List.set_cons_succ, List.set_cons_zero]); (with_reducible exact rfl)) | (with_reducible exact rfl) | (show (_ : Array Value) = _; exact rfl)))⟩ ?_
    rintro v ⟨gv, Bv⟩
    have cv := Bv.cell
    refine bodyPost_ret (v := wv q) (by simp [results, Try.results22, go_sem, cv]) rfl ⟨rfl, gv⟩
theorem runat (r : RN) (x s : Int) (w : World) (h : r.ok) (hx : 0 ≤ x ∧ x ≤ 18446744073709551615) (hs : r.at x = s) :
    Calls Try.prog 22 #[runv r, .int .u64 x] w fun e w' => e = .returned (wv s) ∧ Below w.heap.size w w' := by
  obtain ⟨g, hg⟩ : ∃ g, (if r.b = true then r.f else r.t) = g := ⟨_, rfl⟩
  have og : g.ok := by rw [← hg]; split; exact h.1; exact h.2
  have e : s = if g.at x < r.t.at x then g.at x else r.t.at x := by
    rw [← hs, ← hg]; unfold RN.at
    by_cases hb : r.b = true
    · rw [if_pos hb, if_pos hb]
    · rw [if_neg hb, if_neg hb, if_neg (by omega)]
  subst e
  have i1 := LN.at_in og x; have i2 := LN.at_in h.2 x
  by_cases hlt : g.at x < r.t.at x
  · rw [if_pos hlt]; exact runat_lt r g x _ _ _ w hg og h.2 hx rfl rfl i1 i2 rfl (by unfold cmp; rw [if_pos hlt]; rfl)
  · rw [if_neg hlt]; exact runat_ge r g x _ _ _ w hg og h.2 hx rfl rfl i1 i2 rfl (by unfold cmp; rw [if_neg hlt]; split <;> rfl)
set_option maxHeartbeats 2000000 in
theorem rrunat_f (r : RN) (x p q : Int) (w : World) (hb : r.b = false) (ot : r.t.ok) (hx : 0 ≤ x ∧ x ≤ 18446744073709551615) (hq : r.t.at x = q) (q1 : In128 q) :
    Calls Try.prog 26 #[rrunv r, .int .u64 x] w fun e w' => e = .returned (nv q) ∧ Below w.heap.size w w' := by
  have Hq := hide hq; clear hq
  rw [rrunv, hb]
  clear hb
  go_enter Try.func26, Try.ntmps26
  go_wp2_with fail
  refine (rnatL r.t x q _ ot hx Hq.out).mono ?_
  rintro e w1 ⟨rfl, hb1⟩
  have A1 : Blk w1 (w.heap.size) #[.int .u64 r.f.X, .int .u64 (dg0 (r.f.Y)), .int .u64 (dg1 (r.f.Y)), .int .u64 (dg2 (r.f.Y)), .int .u64 (dg3 (r.f.Y)), .int .u64 r.f.M, .int .u64 r.t.X, .int .u64 (dg0 (r.t.Y)), .int .u64 (dg1 (r.t.Y)), .int .u64 (dg2 (r.t.Y)), .int .u64 (dg3 (r.t.Y)), .int .u64 r.t.M, .bool false] 35 := Blk.below (by (repeat' (first | (with_reducible (first | assumption | exact Blk.alloc_new _ _ _ (by first | rfl | (simp; done) | omega) | apply Blk.drewN | apply Blk.drew | apply Blk.alloc_old | apply Blk.set_same | apply Blk.set_other)) | (show (_ : Nat) ≠ _; first | omega | (simp; done) | (simp; omega)) | ((simp only [List.setIfInBounds_toArray, List.set_cons_succ, List.set_cons_zero]); (with_reducible exact rfl)) | (with_reducible exact rfl) | (show (_ : Array Value) = _; exact rfl)))) hb1 (by first | (simp; done) | omega | (simp; omega))
  have R1 : Blk w1 (w.heap.size + 1) #[.int .u64 0, .int .u64 0, .int .u64 0, .int .u64 0] 31 := Blk.below (by (repeat' (first | (with_reducible (first | assumption | exact Blk.alloc_new _ _ _ (by first | rfl | (simp; done) | omega) | apply Blk.drewN | apply Blk.drew | apply Blk.alloc_old | apply Blk.set_same | apply Blk.set_other)) | (show (_ : Nat) ≠ _; first | omega | (simp; done) | (simp; omega)) | ((simp only [List.setIfInBounds_toArray, List.set_cons_succ, List.set_cons_zero]); (with_reducible exact rfl)) | (with_reducible exact rfl) | (show (_ : Array Value) = _; exact rfl)))) hb1 (by first | (simp; done) | omega | (simp; omega))
  have g1 : Below w.heap.size w w1 := by refine Below.trans ?_ (hb1.mono ?_) <;> (repeat' (first | (with_reducible (first | exact Below.refl _ _ | assumption | refine below_drewN ?_ _ | refine Below.drew ?_ | refine Below.alloc ?_ ?_ _ | refine Below.setCell ?_ ?_ _)) | go_size))
  have hz1 := hb1.size
  (try simp at hz1)
  clear hb1
  replace cA := A1.cell
  replace fA := A1.frozen
  replace zA := A1.size
  replace cR := R1.cell
  replace fR := R1.frozen
  replace zR := R1.size
  go_wp2_with fail
  refine wp_forget (fun v => Below w.heap.size w v ∧ Blk v (w.heap.size) #[.int .u64 r.f.X, .int .u64 (dg0 (r.f.Y)), .int .u64 (dg1 (r.f.Y)), .int .u64 (dg2 (r.f.Y)), .int .u64 (dg3 (r.f.Y)), .int .u64 r.f.M, .int .u64 r.t.X, .int .u64 (dg0 (r.t.Y)), .int .u64 (dg1 (r.t.Y)), .int .u64 (dg2 (r.t.Y)), .int .u64 (dg3 (r.t.Y)), .int .u64 r.t.M, .bool false] 35 ∧ Blk v (w.heap.size + 1) #[.int .u64 0, .int .u64 0, .int .u64 0, .int .u64 0] 31 ∧ Blk v (w1.heap.size) #[.int .u64 (dg0 (q)), .int .u64 (dg1 (q)), .int .u64 (dg2 (q)), .int .u64 (dg3 (q))] 31) ⟨by (repeat' (first | (with_reducible (first | exact Below.refl _ _ | assumption | refine below_drewN ?_ _ | refine Below.drew ?_ | refine Below.alloc ?_ ?_ _ | refine Below.setCell ?_ ?_ _)) | go_size)), by (repeat' (first | (with_reducible (first | assumption | exact Blk.alloc_new _ _ _ (by first | rfl | (simp; done) | omega) | apply Blk.drewN | apply Blk.drew | apply Blk.alloc_old | apply Blk.set_same | apply Blk.set_other)) | (show (_ : Nat) ≠ _; first | omega | (simp; done) | (simp; omega)) | ((simp only [List.setIfInBounds_toArray, List.set_cons_succ, List.set_cons_zero]); (with_reducible exact rfl)) | (with_reducible exact rfl) | (show (_ : Array Value) = _; exact rfl))), by (repeat' (first | (with_reducible (first | assumption | exact Blk.alloc_new _ _ _ (by first | rfl | (simp; done) | omega) | apply Blk.drewN | apply Blk.drew | apply Blk.alloc_old | apply Blk.set_same | apply Blk.set_other)) | (show (_ : Nat) ≠ _; first | omega | (simp; done) | (simp; omega)) | ((simp only [List.setIfInBounds_toArray, List.set_cons_succ, List.set_cons_zero]); (with_reducible exact rfl)) | (with_reducible exact rfl) | (show (_ : Array Value) = _; exact rfl))), by (repeat' (first | (with_reducible (first | assumption | exact Blk.alloc_new _ _ _ (by first | rfl | (simp; done) | omega) | apply Blk.drewN | apply Blk.drew | apply Blk.alloc_old | apply Blk.set_same | apply Blk.set_other)) | (show (_ : Nat) ≠ _; first | omega | (simp; done) | (simp; omega)) | ((simp only [List.setIfInBounds_toArray, List.set_cons_succ, List.set_cons_zero]); (with_reducible exact rfl)) | (with_reducible exact rfl) | (show (_ : Array Value) = _; exact rfl)))⟩ ?_
  rintro v2 ⟨gv2, Av2, Rv2, Vv2⟩
  have qA2 := blk_calm Av2
  have qR2 := blk_calm Rv2
  have qV2 := blk_calm Vv2
  refine wp_region_quiet_below (by kernel_rfl) (by kernel_rfl) ?_
  repeat (go_big_quiet_step ((first
      | fail)))
  refine wpQuiet_nil ?_
  intro _ hw'
  obtain ⟨pq, hw''⟩ := hw'
  subst hw''
  have hb2 := below_regrown v2 pq.d pq.os
  generalize Sort.grow (redrawn v2 pq.d) pq.os = w2 at *
  have A2 : Blk w2 (w.heap.size) #[.int .u64 r.f.X, .int .u64 (dg0 (r.f.Y)), .int .u64 (dg1 (r.f.Y)), .int .u64 (dg2 (r.f.Y)), .int .u64 (dg3 (r.f.Y)), .int .u64 r.f.M, .int .u64 r.t.X, .int .u64 (dg0 (r.t.Y)), .int .u64 (dg1 (r.t.Y)), .int .u64 (dg2 (r.t.Y)), .int .u64 (dg3 (r.t.Y)), .int .u64 r.t.M, .bool false] 35 := Blk.below Av2 hb2 Av2.size
  have R2 : Blk w2 (w.heap.size + 1) #[.int .u64 0, .int .u64 0, .int .u64 0, .int .u64 0] 31 := Blk.below Rv2 hb2 Rv2.size
  have V2 : Blk w2 (w1.heap.size) #[.int .u64 (dg0 (q)), .int .u64 (dg1 (q)), .int .u64 (dg2 (q)), .int .u64 (dg3 (q))] 31 := Blk.below Vv2 hb2 Vv2.size
  have g2 : Below w.heap.size w w2 := gv2.trans (hb2.mono gv2.size)
  have hz2 : w.heap.size ≤ w2.heap.size := g2.size
  clear hb2 gv2 Av2 qA2 Rv2 qR2 Vv2 qV2
  replace cA := A2.cell
  replace fA := A2.frozen
  replace zA := A2.size
  replace cR := R2.cell
  replace fR := R2.frozen
  replace zR := R2.size
  have cV := V2.cell
  have fV := V2.frozen
  have zV := V2.size
  go_wp2
  refine bp_forget (fun v => Below w.heap.size w v ∧ Blk v (w.heap.size + 1) #[.int .u64 (dg0 (q)), .int .u64 (dg1 (q)), .int .u64 (dg2 (q)), .int .u64 (dg3 (q))] 31) ⟨by (repeat' (first | (with_reducible (first | exact Below.refl _ _ | assumption | refine below_drewN ?_ _ | refine Below.drew ?_ | refine Below.alloc ?_ ?_ _ | refine Below.setCell ?_ ?_ _)) | go_size)), by (repeat' (first | (with_reducible (first | assumption | exact Blk.alloc_new _ _ _ (by first | rfl | (simp; done) | omega) | apply Blk.drewN | apply Blk.drew | apply Blk.alloc_old | apply Blk.set_same | apply Blk.set_other)) | (show (_ : Nat) ≠ _; first | omega | (simp; done) | (simp; omega)) | ((simp only [List.setIfInBounds_toArray, List.set_cons_succ, List.set_cons_zero]); (with_reducible exact rfl)) | (with_reducible exact rfl) | (show (_ : Array Value) = _; exact rfl)))⟩ ?_
  rintro v ⟨gv, Bv⟩
  have cv := Bv.cell
  refine bodyPost_ret (v := nv q) (by simp [results, Try.results26, go_sem, cv]) rfl ⟨rfl, gv⟩
set_option maxHeartbeats 2000000 in
theorem rrunat_tt (r : RN) (x p q : Int) (w : World) (hb : r.b = true) (ot : r.t.ok) (hx : 0 ≤ x ∧ x ≤ 18446744073709551615) (hq : r.t.at x = q) (q1 : In128 q) (of : r.f.ok) (hp : r.f.at x = p) (p1 : In128 p) (hlt : decide (p < q) = true) :
    Calls Try.prog 26 #[rrunv r, .int .u64 x] w fun e w' => e = .returned (nv p) ∧ Below w.heap.size w w' := by
  have Hq := hide hq; clear hq; have Hp := hide hp; have Hlt := hide hlt; clear hp hlt
  rw [rrunv, hb]
  clear hb
  go_enter Try.func26, Try.ntmps26
  go_wp2_with fail
  refine (rnatL r.t x q _ ot hx Hq.out).mono ?_
  rintro e w1 ⟨rfl, hb1⟩
  have A1 : Blk w1 (w.heap.size) #[.int .u64 r.f.X, .int .u64 (dg0 (r.f.Y)), .int .u64 (dg1 (r.f.Y)), .int .u64 (dg2 (r.f.Y)), .int .u64 (dg3 (r.f.Y)), .int .u64 r.f.M, .int .u64 r.t.X, .int .u64 (dg0 (r.t.Y)), .int .u64 (dg1 (r.t.Y)), .int .u64 (dg2 (r.t.Y)), .int .u64 (dg3 (r.t.Y)), .int .u64 r.t.M, .bool true] 35 := Blk.below (by (repeat' (first | (with_reducible (first | assumption | exact Blk.alloc_new _ _ _ (by first | rfl | (simp; done) | omega) | apply Blk.drewN | apply Blk.drew | apply Blk.alloc_old | apply Blk.set_same | apply Blk.set_other)) | (show (_ : Nat) ≠ _; first | omega | (simp; done) | (simp; omega)) | ((simp only [List.setIfInBounds_toArray, List.set_cons_succ, List.set_cons_zero]); (with_reducible exact rfl)) | (with_reducible exact rfl) | (show (_ : Array Value) = _; exact rfl)))) hb1 (by first | (simp; done) | omega | (simp; omega))
  have R1 : Blk w1 (w.heap.size + 1) #[.int .u64 0, .int .u64 0, .int .u64 0, .int .u64 0] 31 := Blk.below (by (repeat' (first | (with_reducible (first | assumption | exact Blk.alloc_new _ _ _ (by first | rfl | (simp; done) | omega) | apply Blk.drewN | apply Blk.drew | apply Blk.alloc_old | apply Blk.set_same | apply Blk.set_other)) | (show (_ : Nat) ≠ _; first | omega | (simp; done) | (simp; omega)) | ((simp only [List.setIfInBounds_toArray, List.set_cons_succ, List.set_cons_zero]); (with_reducible exact rfl)) | (with_reducible exact rfl) | (show (_ : Array Value) = _; exact rfl)))) hb1 (by first | (simp; done) | omega | (simp; omega))
  have g1 : Below w.heap.size w w1 := by refine Below.trans ?_ (hb1.mono ?_) <;> (repeat' (first | (with_reducible (first | exact Below.refl _ _ | assumption | refine below_drewN ?_ _ | refine Below.drew ?_ | refine Below.alloc ?_ ?_ _ | refine Below.setCell ?_ ?_ _)) | go_size))
  have hz1 := hb1.size
  (try simp at hz1)
  clear hb1
  replace cA := A1.cell
  replace fA := A1.frozen
  replace zA := A1.size
  replace cR := R1.cell
  replace fR := R1.frozen
  replace zR := R1.size
  go_wp2_with fail
  refine wp_forget (fun v => Below w.heap.size w v ∧ Blk v (w.heap.size) #[.int .u64 r.f.X, .int .u64 (dg0 (r.f.Y)), .int .u64 (dg1 (r.f.Y)), .int .u64 (dg2 (r.f.Y)), .int .u64 (dg3 (r.f.Y)), .int .u64 r.f.M, .int .u64 r.t.X, .int .u64 (dg0 (r.t.Y)), .int .u64 (dg1 (r.t.Y)), .int .u64 (dg2 (r.t.Y)), .int .u64 (dg3 (r.t.Y)), .int .u64 r.t.M, .bool true] 35 ∧ Blk v (w.heap.size + 1) #[.int .u64 0, .int .u64 0, .int .u64 0, .int .u64 0] 31 ∧ Blk v (w1.heap.size) #[.int .u64 (dg0 (q)), .int .u64 (dg1 (q)), .int .u64 (dg2 (q)), .int .u64 (dg3 (q))] 31) ⟨by (repeat' (first | (with_reducible (first | exact Below.refl _ _ | assumption | refine below_drewN ?_ _ | refine Below.drew ?_ | refine Below.alloc ?_ ?_ _ | refine Below.setCell ?_ ?_ _)) | go_size)), by (repeat' (first | (with_reducible (first | assumption | exact Blk.alloc_new _ _ _ (by first | rfl | (simp; done) | omega) | apply Blk.drewN | apply Blk.drew | apply Blk.alloc_old | apply Blk.set_same | apply Blk.set_other)) | (show (_ : Nat) ≠ _; first | omega | (simp; done) | (simp; omega)) | ((simp only [List.setIfInBounds_toArray, List.set_cons_succ, List.set_cons_zero]); (with_reducible exact rfl)) | (with_reducible exact rfl) | (show (_ : Array Value) = _; exact rfl))), by (repeat' (first | (with_reducible (first | assumption | exact Blk.alloc_new _ _ _ (by first | rfl | (simp; done) | omega) | apply Blk.drewN | apply Blk.drew | apply Blk.alloc_old | apply Blk.set_same | apply Blk.set_other)) | (show (_ : Nat) ≠ _; first | omega | (simp; done) | (simp; omega)) | ((simp only [List.setIfInBounds_toArray, List.set_cons_succ, List.set_cons_zero]); (with_reducible exact rfl)) | (with_reducible exact rfl) | (show (_ : Array Value) = _; exact rfl))), by (repeat' (first | (with_reducible (first | assumption | exact Blk.alloc_new _ _ _ (by first | rfl | (simp; done) | omega) | apply Blk.drewN | apply Blk.drew | apply Blk.alloc_old | apply Blk.set_same | apply Blk.set_other)) | (show (_ : Nat) ≠ _; first | omega | (simp; done) | (simp; omega)) | ((simp only [List.setIfInBounds_toArray, List.set_cons_succ, List.set_cons_zero]); (with_reducible exact rfl)) | (with_reducible exact rfl) | (show (_ : Array Value) = _; exact rfl)))⟩ ?_
  rintro v2 ⟨gv2, Av2, Rv2, Vv2⟩
  have qA2 := blk_calm Av2
  have qR2 := blk_calm Rv2
  have qV2 := blk_calm Vv2
  refine wp_region_quiet_below (by kernel_rfl) (by kernel_rfl) ?_
  repeat (go_big_quiet_step ((first
      | (go_at_call 54; (with_reducible exact Calls.regrown_of (rnatL r.f x p _ of hx Hp.out)))
      | (go_at_call 42; (with_reducible exact Calls.regrown_of (rLessC p q true _ p1 q1 Hlt.out))))))
  refine wpQuiet_nil ?_
  intro _ hw'
  obtain ⟨pq, hw''⟩ := hw'
  subst hw''
  have hb2 := below_regrown v2 pq.d pq.os
  generalize Sort.grow (redrawn v2 pq.d) pq.os = w2 at *
  have A2 : Blk w2 (w.heap.size) #[.int .u64 r.f.X, .int .u64 (dg0 (r.f.Y)), .int .u64 (dg1 (r.f.Y)), .int .u64 (dg2 (r.f.Y)), .int .u64 (dg3 (r.f.Y)), .int .u64 r.f.M, .int .u64 r.t.X, .int .u64 (dg0 (r.t.Y)), .int .u64 (dg1 (r.t.Y)), .int .u64 (dg2 (r.t.Y)), .int .u64 (dg3 (r.t.Y)), .int .u64 r.t.M, .bool true] 35 := Blk.below Av2 hb2 Av2.size
  have R2 : Blk w2 (w.heap.size + 1) #[.int .u64 0, .int .u64 0, .int .u64 0, .int .u64 0] 31 := Blk.below Rv2 hb2 Rv2.size
  have V2 : Blk w2 (w1.heap.size) #[.int .u64 (dg0 (q)), .int .u64 (dg1 (q)), .int .u64 (dg2 (q)), .int .u64 (dg3 (q))] 31 := Blk.below Vv2 hb2 Vv2.size
  have g2 : Below w.heap.size w w2 := gv2.trans (hb2.mono gv2.size)
  have hz2 : w.heap.size ≤ w2.heap.size := g2.size
  clear hb2 gv2 Av2 qA2 Rv2 qR2 Vv2 qV2
  replace cA := A2.cell
  replace fA := A2.frozen
  replace zA := A2.size
  replace cR := R2.cell
  replace fR := R2.frozen
  replace zR := R2.size
  have cV := V2.cell
  have fV := V2.frozen
  have zV := V2.size
  go_wp2_with fail
  refine (rnatL r.f x p _ of hx Hp.out).mono ?_
  rintro e w3 ⟨rfl, hb3⟩
  have R3 : Blk w3 (w.heap.size + 1) #[.int .u64 0, .int .u64 0, .int .u64 0, .int .u64 0] 31 := Blk.below (by (repeat' (first | (with_reducible (first | assumption | exact Blk.alloc_new _ _ _ (by first | rfl | (simp; done) | omega) | apply Blk.drewN | apply Blk.drew | apply Blk.alloc_old | apply Blk.set_same | apply Blk.set_other)) | (show (_ : Nat) ≠ _; first | omega | (simp; done) | (simp; omega)) | ((simp only [List.setIfInBounds_toArray, List.set_cons_succ, List.set_cons_zero]); (with_reducible exact rfl)) | (with_reducible exact rfl) | (show (_ : Array Value) = _; exact rfl)))) hb3 (by first | (simp; done) | omega | (simp; omega))
  have g3 : Below w.heap.size w w3 := by refine Below.trans ?_ (hb3.mono ?_) <;> (repeat' (first | (with_reducible (first | exact Below.refl _ _ | assumption | refine below_drewN ?_ _ | refine Below.drew ?_ | refine Below.alloc ?_ ?_ _ | refine Below.setCell ?_ ?_ _)) | go_size))
  have hz3 := hb3.size
  (try simp at hz3)
  clear hb3
  replace cR := R3.cell
  replace fR := R3.frozen
  replace zR := R3.size
  go_wp2
  refine bp_forget (fun v => Below w.heap.size w v ∧ Blk v (w.heap.size + 1) #[.int .u64 (dg0 (p)), .int .u64 (dg1 (p)), .int .u64 (dg2 (p)), .int .u64 (dg3 (p))] 31) ⟨by (repeat' (first | (with_reducible (first | exact Below.refl _ _ | assumption | refine below_drewN ?_ _ | refine Below.drew ?_ | refine Below.alloc ?_ ?_ _ | refine Below.setCell ?_ ?_ _)) | go_size)), by (repeat' (first | (with_reducible (first | assumption | exact Blk.alloc_new _ _ _ (by first | rfl | (simp; done) | omega) | apply Blk.drewN | apply Blk.drew | apply Blk.alloc_old | apply Blk.set_same | apply Blk.set_other)) | (show (_ : Nat) ≠ _; first | omega | (simp; done) | (simp; omega)) | ((simp only [List.setIfInBounds_toArray, List.set_cons_succ, List.set_cons_zero]); (with_reducible exact rfl)) | (with_reducible exact rfl) | (show (_ : Array Value) = _; exact rfl)))⟩ ?_
  rintro v ⟨gv, Bv⟩
  have cv := Bv.cell
  refine bodyPost_ret (v := nv p) (by simp [results, Try.results26, go_sem, cv]) rfl ⟨rfl, gv⟩
set_option maxHeartbeats 2000000 in
theorem rrunat_tf (r : RN) (x p q : Int) (w : World) (hb : r.b = true) (ot : r.t.ok) (hx : 0 ≤ x ∧ x ≤ 18446744073709551615) (hq : r.t.at x = q) (q1 : In128 q) (of : r.f.ok) (hp : r.f.at x = p) (p1 : In128 p) (hlt : decide (p < q) = false) :
    Calls Try.prog 26 #[rrunv r, .int .u64 x] w fun e w' => e = .returned (nv q) ∧ Below w.heap.size w w' := by
  have Hq := hide hq; clear hq; have Hp := hide hp; have Hlt := hide hlt; clear hp hlt
  rw [rrunv, hb]
  clear hb
  go_enter Try.func26, Try.ntmps26
  go_wp2_with fail
  refine (rnatL r.t x q _ ot hx Hq.out).mono ?_
  rintro e w1 ⟨rfl, hb1⟩
  have A1 : Blk w1 (w.heap.size) #[.int .u64 r.f.X, .int .u64 (dg0 (r.f.Y)), .int .u64 (dg1 (r.f.Y)), .int .u64 (dg2 (r.f.Y)), .int .u64 (dg3 (r.f.Y)), .int .u64 r.f.M, .int .u64 r.t.X, .int .u64 (dg0 (r.t.Y)), .int .u64 (dg1 (r.t.Y)), .int .u64 (dg2 (r.t.Y)), .int .u64 (dg3 (r.t.Y)), .int .u64 r.t.M, .bool true] 35 := Blk.below (by (repeat' (first | (with_reducible (first | assumption | exact Blk.alloc_new _ _ _ (by first | rfl | (simp; done) | omega) | apply Blk.drewN | apply Blk.drew | apply Blk.alloc_old | apply Blk.set_same | apply Blk.set_other)) | (show (_ : Nat) ≠ _; first | omega | (simp; done) | (simp; omega)) | ((simp only [List.setIfInBounds_toArray, List.set_cons_succ, List.set_cons_zero]); (with_reducible exact rfl)) | (with_reducible exact rfl) | (show (_ : Array Value) = _; exact rfl)))) hb1 (by first | (simp; done) | omega | (simp; omega))
  have R1 : Blk w1 (w.heap.size + 1) #[.int .u64 0, .int .u64 0, .int .u64 0, .int .u64 0] 31 := Blk.below (by (repeat' (first | (with_reducible (first | assumption | exact Blk.alloc_new _ _ _ (by first | rfl | (simp; done) | omega) | apply Blk.drewN | apply Blk.drew | apply Blk.alloc_old | apply Blk.set_same | apply Blk.set_other)) | (show (_ : Nat) ≠ _; first | omega | (simp; done) | (simp; omega)) | ((simp only [List.setIfInBounds_toArray, List.set_cons_succ, List.set_cons_zero]); (with_reducible exact rfl)) | (with_reducible exact rfl) | (show (_ : Array Value) = _; exact rfl)))) hb1 (by first | (simp; done) | omega | (simp; omega))
  have g1 : Below w.heap.size w w1 := by refine Below.trans ?_ (hb1.mono ?_) <;> (repeat' (first | (with_reducible (first | exact Below.refl _ _ | assumption | refine below_drewN ?_ _ | refine Below.drew ?_ | refine Below.alloc ?_ ?_ _ | refine Below.setCell ?_ ?_ _)) | go_size))
  have hz1 := hb1.size
  (try simp at hz1)
  clear hb1
  replace cA := A1.cell
  replace fA := A1.frozen
  replace zA := A1.size
  replace cR := R1.cell
  replace fR := R1.frozen
  replace zR := R1.size
  go_wp2_with fail
  refine wp_forget (fun v => Below w.heap.size w v ∧ Blk v (w.heap.size) #[.int .u64 r.f.X, .int .u64 (dg0 (r.f.Y)), .int .u64 (dg1 (r.f.Y)), .int .u64 (dg2 (r.f.Y)), .int .u64 (dg3 (r.f.Y)), .int .u64 r.f.M, .int .u64 r.t.X, .int .u64 (dg0 (r.t.Y)), .int .u64 (dg1 (r.t.Y)), .int .u64 (dg2 (r.t.Y)), .int .u64 (dg3 (r.t.Y)), .int .u64 r.t.M, .bool true] 35 ∧ Blk v (w.heap.size + 1) #[.int .u64 0, .int .u64 0, .int .u64 0, .int .u64 0] 31 ∧ Blk v (w1.heap.size) #[.int .u64 (dg0 (q)), .int .u64 (dg1 (q)), .int .u64 (dg2 (q)), .int .u64 (dg3 (q))] 31) ⟨by (repeat' (first | (with_reducible (first | exact Below.refl _ _ | assumption | refine below_drewN ?_ _ | refine Below.drew ?_ | refine Below.alloc ?_ ?_ _ | refine Below.setCell ?_ ?_ _)) | go_size)), by (repeat' (first | (with_reducible (first | assumption | exact Blk.alloc_new _ _ _ (by first | rfl | (simp; done) | omega) | apply Blk.drewN | apply Blk.drew | apply Blk.alloc_old | apply Blk.set_same | apply Blk.set_other)) | (show (_ : Nat) ≠ _; first | omega | (simp; done) | (simp; omega)) | ((simp only [List.setIfInBounds_toArray, List.set_cons_succ, List.set_cons_zero]); (with_reducible exact rfl)) | (with_reducible exact rfl) | (show (_ : Array Value) = _; exact rfl))), by (repeat' (first | (with_reducible (first | assumption | exact Blk.alloc_new _ _ _ (by first | rfl | (simp; done) | omega) | apply Blk.drewN | apply Blk.drew | apply Blk.alloc_old | apply Blk.set_same | apply Blk.set_other)) | (show (_ : Nat) ≠ _; first | omega | (simp; done) | (simp; omega)) | ((simp only [List.setIfInBounds_toArray, List.set_cons_succ, List.set_cons_zero]); (with_reducible exact rfl)) | (with_reducible exact rfl) | (show (_ : Array Value) = _; exact rfl))), by (repeat' (first | (with_reducible (first | assumption | exact Blk.alloc_new _ _ _ (by first | rfl | (simp; done) | omega) | apply Blk.drewN | apply Blk.drew | apply Blk.alloc_old | apply Blk.set_same | apply Blk.set_other)) | (show (_ : Nat) ≠ _; first | omega | (simp; done) | (simp; omega)) | ((simp only [List.setIfInBounds_toArray, List.set_cons_succ, List.set_cons_zero]); (with_reducible exact rfl)) | (with_reducible exact rfl) | (show (_ : Array Value) = _; exact rfl)))⟩ ?_
  rintro v2 ⟨gv2, Av2, Rv2, Vv2⟩
  have qA2 := blk_calm Av2
  have qR2 := blk_calm Rv2
  have qV2 := blk_calm Vv2
  refine wp_region_quiet_below (by kernel_rfl) (by kernel_rfl) ?_
  repeat (go_big_quiet_step ((first
      | (go_at_call 54; (with_reducible exact Calls.regrown_of (rnatL r.f x p _ of hx Hp.out)))
      | (go_at_call 42; (with_reducible exact Calls.regrown_of (rLessC p q false _ p1 q1 Hlt.out))))))
  refine wpQuiet_nil ?_
  intro _ hw'
  obtain ⟨pq, hw''⟩ := hw'
  subst hw''
  have hb2 := below_regrown v2 pq.d pq.os
  generalize Sort.grow (redrawn v2 pq.d) pq.os = w2 at *
  have A2 : Blk w2 (w.heap.size) #[.int .u64 r.f.X, .int .u64 (dg0 (r.f.Y)), .int .u64 (dg1 (r.f.Y)), .int .u64 (dg2 (r.f.Y)), .int .u64 (dg3 (r.f.Y)), .int .u64 r.f.M, .int .u64 r.t.X, .int .u64 (dg0 (r.t.Y)), .int .u64 (dg1 (r.t.Y)), .int .u64 (dg2 (r.t.Y)), .int .u64 (dg3 (r.t.Y)), .int .u64 r.t.M, .bool true] 35 := Blk.below Av2 hb2 Av2.size
  have R2 : Blk w2 (w.heap.size + 1) #[.int .u64 0, .int .u64 0, .int .u64 0, .int .u64 0] 31 := Blk.below Rv2 hb2 Rv2.size
  have V2 : Blk w2 (w1.heap.size) #[.int .u64 (dg0 (q)), .int .u64 (dg1 (q)), .int .u64 (dg2 (q)), .int .u64 (dg3 (q))] 31 := Blk.below Vv2 hb2 Vv2.size
  have g2 : Below w.heap.size w w2 := gv2.trans (hb2.mono gv2.size)
  have hz2 : w.heap.size ≤ w2.heap.size := g2.size
  clear hb2 gv2 Av2 qA2 Rv2 qR2 Vv2 qV2
  replace cA := A2.cell
  replace fA := A2.frozen
  replace zA := A2.size
  replace cR := R2.cell
  replace fR := R2.frozen
  replace zR := R2.size
  have cV := V2.cell
  have fV := V2.frozen
  have zV := V2.size
  go_wp2
  refine bp_forget (fun v => Below w.heap.size w v ∧ Blk v (w.heap.size + 1) #[.int .u64 (dg0 (q)), .int .u64 (dg1 (q)), .int .u64 (dg2 (q)), .int .u64 (dg3 (q))] 31) ⟨by (repeat' (first | (with_reducible (first | exact Below.refl _ _ | assumption | refine below_drewN ?_ _ | refine Below.drew ?_ | refine Below.alloc ?_ ?_ _ | refine Below.setCell ?_ ?_ _)) | go_size)), by (repeat' (first | (with_reducible (first | assumption | exact Blk.alloc_new _ _ _ (by first | rfl | (simp; done) | omega) | apply Blk.drewN | apply Blk.drew | apply Blk.alloc_old | apply Blk.set_same | apply Blk.set_other)) | (show (_ : Nat) ≠ _; first | omega | (simp; done) | (simp; omega)) | ((simp only [List.setIfInBounds_toArray, List.set_cons_succ, List.set_cons_zero]); (with_reducible exact rfl)) | (with_reducible exact rfl) | (show (_ : Array Value) = _; exact rfl)))⟩ ?_
  rintro v ⟨gv, Bv⟩
  have cv := Bv.cell
  refine bodyPost_ret (v := nv q) (by simp [results, Try.results26, go_sem, cv]) rfl ⟨rfl, gv⟩
theorem rrunat (r : RN) (x s : Int) (w : World) (h : r.ok) (hx : 0 ≤ x ∧ x ≤ 18446744073709551615) (hs : r.at x = s) :
    Calls Try.prog 26 #[rrunv r, .int .u64 x] w fun e w' => e = .returned (nv s) ∧ Below w.heap.size w w' := by
  have i1 := LN.at_in h.1 x; have i2 := LN.at_in h.2 x
  unfold RN.at at hs
  rcases hb : r.b with _ | _
  · rw [hb] at hs; simp only [Bool.false_eq_true, if_false] at hs
    exact rrunat_f r x 0 s w hb h.2 hx hs (hs ▸ i2)
  · rw [hb] at hs; simp only [if_true] at hs
    by_cases hlt : r.f.at x < r.t.at x
    · rw [if_pos hlt] at hs; subst hs; exact rrunat_tt r x _ _ w hb h.2 hx rfl i2 h.1 rfl i1 (decide_eq_true hlt)
    · rw [if_neg hlt] at hs; subst hs; exact rrunat_tf r x _ _ w hb h.2 hx rfl i2 h.1 rfl i1 (decide_eq_false hlt)
set_option maxHeartbeats 4000000 in
theorem runreach' (r : RN) (g : LN) (W p q s : Int) (w : World) (hg : (if r.b = true then r.f else r.t) = g) (og : g.ok) (ot : r.t.ok) (hW : In128 W) (hp : g.reach W = p) (hq : r.t.reach W = q) (p0 : 0 ≤ p) (q0 : 0 ≤ q) (hs : s = max p q) :
    Calls Try.prog 25 #[runv r, wv W] w fun e w' => e = .returned (.int .u64 s) ∧ Below w.heap.size w w' := by
  have Hg := hide hg; have Hp := hide hp; have Hq := hide hq; have Hs := hide hs; clear hg hp hq hs
  have ix0 : ∀ v, (Instr.index 97 (.agg #[.int .u64 g.X, .int .u64 (hi (g.Y)), .int .u64 (lo (g.Y)), .int .u64 g.M, .int .u64 r.t.X, .int .u64 (hi (r.t.Y)), .int .u64 (lo (r.t.Y)), .int .u64 r.t.M]) (.int .i64 0)).run Try.prog v = .ok (.agg #[.int .u64 g.X, .int .u64 (hi (g.Y)), .int .u64 (lo (g.Y)), .int .u64 g.M]) v := fun _ => by kernel_rfl
  have ix1 : ∀ v, (Instr.index 97 (.agg #[.int .u64 g.X, .int .u64 (hi (g.Y)), .int .u64 (lo (g.Y)), .int .u64 g.M, .int .u64 r.t.X, .int .u64 (hi (r.t.Y)), .int .u64 (lo (r.t.Y)), .int .u64 r.t.M]) (.int .i64 1)).run Try.prog v = .ok (.agg #[.int .u64 r.t.X, .int .u64 (hi (r.t.Y)), .int .u64 (lo (r.t.Y)), .int .u64 r.t.M]) v := fun _ => by kernel_rfl
  go_enter Try.func25, Try.ntmps25
  go_wp2_with fail
  refine (all_any r g _ Hg.out).mono ?_
  rintro e w1 ⟨rfl, hb1⟩
  have W1 : Blk w1 (w.heap.size + 1) #[.int .u64 (hi (W)), .int .u64 (lo (W))] 26 := Blk.below (by (repeat' (first | (with_reducible (first | assumption | exact Blk.alloc_new _ _ _ (by first | rfl | (simp; done) | omega) | apply Blk.drewN | apply Blk.drew | apply Blk.alloc_old | apply Blk.set_same | apply Blk.set_other)) | (show (_ : Nat) ≠ _; first | omega | (simp; done) | (simp; omega)) | ((simp only [List.setIfInBounds_toArray, List.set_cons_succ, List.set_cons_zero]); (with_reducible exact rfl)) | (with_reducible exact rfl) | (show (_ : Array Value) = _; exact rfl)))) hb1 (by first | (simp; done) | omega | (simp; omega))
  have g1 : Below w.heap.size w w1 := by refine Below.trans ?_ (hb1.mono ?_) <;> (repeat' (first | (with_reducible (first | exact Below.refl _ _ | assumption | refine below_drewN ?_ _ | refine Below.drew ?_ | refine Below.alloc ?_ ?_ _ | refine Below.setCell ?_ ?_ _)) | go_size))
  have hz1 := hb1.size
  (try simp at hz1)
  clear hb1
  replace cW := W1.cell
  replace fW := W1.frozen
  replace zW := W1.size
  go_wp2
  refine wp_loop_rounds 3 ?_
  rw [rounds_succ]
  go_wp2_with fail
  refine (nreachL g W p _ og hW Hp.out).mono ?_
  rintro e w2 ⟨rfl, hb2⟩
  have W2 : Blk w2 (w.heap.size + 1) #[.int .u64 (hi (W)), .int .u64 (lo (W))] 26 := Blk.below (by (repeat' (first | (with_reducible (first | assumption | exact Blk.alloc_new _ _ _ (by first | rfl | (simp; done) | omega) | apply Blk.drewN | apply Blk.drew | apply Blk.alloc_old | apply Blk.set_same | apply Blk.set_other)) | (show (_ : Nat) ≠ _; first | omega | (simp; done) | (simp; omega)) | ((simp only [List.setIfInBounds_toArray, List.set_cons_succ, List.set_cons_zero]); (with_reducible exact rfl)) | (with_reducible exact rfl) | (show (_ : Array Value) = _; exact rfl)))) hb2 (by first | (simp; done) | omega | (simp; omega))
  have g2 : Below w.heap.size w w2 := by refine Below.trans ?_ (hb2.mono ?_) <;> (repeat' (first | (with_reducible (first | exact Below.refl _ _ | assumption | refine below_drewN ?_ _ | refine Below.drew ?_ | refine Below.alloc ?_ ?_ _ | refine Below.setCell ?_ ?_ _)) | go_size))
  have hz2 := hb2.size
  (try simp at hz2)
  clear hb2
  replace cW := W2.cell
  replace fW := W2.frozen
  replace zW := W2.size
  go_wp2
  all_goals
    rw [rounds_succ]
    go_wp2_with fail
    refine (nreachL r.t W q _ ot hW Hq.out).mono ?_
    rintro e w3 ⟨rfl, hb3⟩
    have W3 : Blk w3 (w.heap.size + 1) #[.int .u64 (hi (W)), .int .u64 (lo (W))] 26 := Blk.below (by (repeat' (first | (with_reducible (first | assumption | exact Blk.alloc_new _ _ _ (by first | rfl | (simp; done) | omega) | apply Blk.drewN | apply Blk.drew | apply Blk.alloc_old | apply Blk.set_same | apply Blk.set_other)) | (show (_ : Nat) ≠ _; first | omega | (simp; done) | (simp; omega)) | ((simp only [List.setIfInBounds_toArray, List.set_cons_succ, List.set_cons_zero]); (with_reducible exact rfl)) | (with_reducible exact rfl) | (show (_ : Array Value) = _; exact rfl)))) hb3 (by first | (simp; done) | omega | (simp; omega))
    have g3 : Below w.heap.size w w3 := by refine Below.trans ?_ (hb3.mono ?_) <;> (repeat' (first | (with_reducible (first | exact Below.refl _ _ | assumption | refine below_drewN ?_ _ | refine Below.drew ?_ | refine Below.alloc ?_ ?_ _ | refine Below.setCell ?_ ?_ _)) | go_size))
    have hz3 := hb3.size
    (try simp at hz3)
    clear hb3
    replace cW := W3.cell
    replace fW := W3.frozen
    replace zW := W3.size
    go_wp2
    all_goals
      rw [rounds_succ]
      go_wp2
      go_ret
      exact ⟨reti (by have := Hs.out; omega), by (repeat' (first | (with_reducible (first | exact Below.refl _ _ | assumption | refine below_drewN ?_ _ | refine Below.drew ?_ | refine Below.alloc ?_ ?_ _ | refine Below.setCell ?_ ?_ _)) | go_size))⟩
theorem runreach (r : RN) (W s : Int) (w : World) (h : r.ok) (hW : In128 W) (hs : r.reach W = s) :
    Calls Try.prog 25 #[runv r, wv W] w fun e w' => e = .returned (.int .u64 s) ∧ Below w.heap.size w w' := by
  obtain ⟨g, hg⟩ : ∃ g, (if r.b = true then r.f else r.t) = g := ⟨_, rfl⟩
  have og : g.ok := by rw [← hg]; split; exact h.1; exact h.2
  refine runreach' r g W _ _ s w hg og h.2 hW rfl rfl (LN.reach_rng og W).1 (LN.reach_rng h.2 W).1 ?_
  rw [← hs, ← hg]; unfold RN.reach
  by_cases hb : r.b = true
  · rw [if_pos hb, if_pos hb]
  · rw [if_neg hb, if_neg hb]; omega
theorem rrunreach_f (r : RN) (W p q : Int) (w : World) (hb : r.b = false) (ot : r.t.ok) (hW : In128 W) (hq : r.t.reach W = q) :
    Calls Try.prog 27 #[rrunv r, nv W] w fun e w' => e = .returned (.int .u64 q) ∧ Below w.heap.size w w' := by
  have Hq := hide hq; clear hq
  rw [rrunv, hb]
  clear hb
  go_enter Try.func27, Try.ntmps27
  go_wp2_with fail
  refine (rnreachL r.t W q _ ot hW Hq.out).mono ?_
  rintro e w1 ⟨rfl, hb1⟩
  have A1 : Blk w1 (w.heap.size) #[.int .u64 r.f.X, .int .u64 (dg0 (r.f.Y)), .int .u64 (dg1 (r.f.Y)), .int .u64 (dg2 (r.f.Y)), .int .u64 (dg3 (r.f.Y)), .int .u64 r.f.M, .int .u64 r.t.X, .int .u64 (dg0 (r.t.Y)), .int .u64 (dg1 (r.t.Y)), .int .u64 (dg2 (r.t.Y)), .int .u64 (dg3 (r.t.Y)), .int .u64 r.t.M, .bool false] 35 := Blk.below (by (repeat' (first | (with_reducible (first | assumption | exact Blk.alloc_new _ _ _ (by first | rfl | (simp; done) | omega) | apply Blk.drewN | apply Blk.drew | apply Blk.alloc_old | apply Blk.set_same | apply Blk.set_other)) | (show (_ : Nat) ≠ _; first | omega | (simp; done) | (simp; omega)) | ((simp only [List.setIfInBounds_toArray, List.set_cons_succ, List.set_cons_zero]); (with_reducible exact rfl)) | (with_reducible exact rfl) | (show (_ : Array Value) = _; exact rfl)))) hb1 (by first | (simp; done) | omega | (simp; omega))
  have W1 : Blk w1 (w.heap.size + 1) #[.int .u64 (dg0 (W)), .int .u64 (dg1 (W)), .int .u64 (dg2 (W)), .int .u64 (dg3 (W))] 31 := Blk.below (by (repeat' (first | (with_reducible (first | assumption | exact Blk.alloc_new _ _ _ (by first | rfl | (simp; done) | omega) | apply Blk.drewN | apply Blk.drew | apply Blk.alloc_old | apply Blk.set_same | apply Blk.set_other)) | (show (_ : Nat) ≠ _; first | omega | (simp; done) | (simp; omega)) | ((simp only [List.setIfInBounds_toArray, List.set_cons_succ, List.set_cons_zero]); (with_reducible exact rfl)) | (with_reducible exact rfl) | (show (_ : Array Value) = _; exact rfl)))) hb1 (by first | (simp; done) | omega | (simp; omega))
  have g1 : Below w.heap.size w w1 := by refine Below.trans ?_ (hb1.mono ?_) <;> (repeat' (first | (with_reducible (first | exact Below.refl _ _ | assumption | refine below_drewN ?_ _ | refine Below.drew ?_ | refine Below.alloc ?_ ?_ _ | refine Below.setCell ?_ ?_ _)) | go_size))
  have hz1 := hb1.size
  (try simp at hz1)
  clear hb1
  replace cA := A1.cell
  replace fA := A1.frozen
  replace zA := A1.size
  replace cW := W1.cell
  replace fW := W1.frozen
  replace zW := W1.size
  go_wp2
  go_ret
  exact ⟨rfl, by (repeat' (first | (with_reducible (first | exact Below.refl _ _ | assumption | refine below_drewN ?_ _ | refine Below.drew ?_ | refine Below.alloc ?_ ?_ _ | refine Below.setCell ?_ ?_ _)) | go_size))⟩
theorem rrunreach_tt (r : RN) (W p q : Int) (w : World) (hb : r.b = true) (ot : r.t.ok) (hW : In128 W) (hq : r.t.reach W = q) (of : r.f.ok) (hp : r.f.reach W = p) (hlt : decide (q < p) = true) :
    Calls Try.prog 27 #[rrunv r, nv W] w fun e w' => e = .returned (.int .u64 p) ∧ Below w.heap.size w w' := by
  have Hq := hide hq; clear hq; have Hp := hide hp; clear hp
  rw [rrunv, hb]
  clear hb
  go_enter Try.func27, Try.ntmps27
  go_wp2_with fail
  refine (rnreachL r.t W q _ ot hW Hq.out).mono ?_
  rintro e w1 ⟨rfl, hb1⟩
  have A1 : Blk w1 (w.heap.size) #[.int .u64 r.f.X, .int .u64 (dg0 (r.f.Y)), .int .u64 (dg1 (r.f.Y)), .int .u64 (dg2 (r.f.Y)), .int .u64 (dg3 (r.f.Y)), .int .u64 r.f.M, .int .u64 r.t.X, .int .u64 (dg0 (r.t.Y)), .int .u64 (dg1 (r.t.Y)), .int .u64 (dg2 (r.t.Y)), .int .u64 (dg3 (r.t.Y)), .int .u64 r.t.M, .bool true] 35 := Blk.below (by (repeat' (first | (with_reducible (first | assumption | exact Blk.alloc_new _ _ _ (by first | rfl | (simp; done) | omega) | apply Blk.drewN | apply Blk.drew | apply Blk.alloc_old | apply Blk.set_same | apply Blk.set_other)) | (show (_ : Nat) ≠ _; first | omega | (simp; done) | (simp; omega)) | ((simp only [List.setIfInBounds_toArray, List.set_cons_succ, List.set_cons_zero]); (with_reducible exact rfl)) | (with_reducible exact rfl) | (show (_ : Array Value) = _; exact rfl)))) hb1 (by first | (simp; done) | omega | (simp; omega))
  have W1 : Blk w1 (w.heap.size + 1) #[.int .u64 (dg0 (W)), .int .u64 (dg1 (W)), .int .u64 (dg2 (W)), .int .u64 (dg3 (W))] 31 := Blk.below (by (repeat' (first | (with_reducible (first | assumption | exact Blk.alloc_new _ _ _ (by first | rfl | (simp; done) | omega) | apply Blk.drewN | apply Blk.drew | apply Blk.alloc_old | apply Blk.set_same | apply Blk.set_other)) | (show (_ : Nat) ≠ _; first | omega | (simp; done) | (simp; omega)) | ((simp only [List.setIfInBounds_toArray, List.set_cons_succ, List.set_cons_zero]); (with_reducible exact rfl)) | (with_reducible exact rfl) | (show (_ : Array Value) = _; exact rfl)))) hb1 (by first | (simp; done) | omega | (simp; omega))
  have g1 : Below w.heap.size w w1 := by refine Below.trans ?_ (hb1.mono ?_) <;> (repeat' (first | (with_reducible (first | exact Below.refl _ _ | assumption | refine below_drewN ?_ _ | refine Below.drew ?_ | refine Below.alloc ?_ ?_ _ | refine Below.setCell ?_ ?_ _)) | go_size))
  have hz1 := hb1.size
  (try simp at hz1)
  clear hb1
  replace cA := A1.cell
  replace fA := A1.frozen
  replace zA := A1.size
  replace cW := W1.cell
  replace fW := W1.frozen
  replace zW := W1.size
  go_wp2_with fail
  refine (rnreachL r.f W p _ of hW Hp.out).mono ?_
  rintro e w2 ⟨rfl, hb2⟩
  have A2 : Blk w2 (w.heap.size) #[.int .u64 r.f.X, .int .u64 (dg0 (r.f.Y)), .int .u64 (dg1 (r.f.Y)), .int .u64 (dg2 (r.f.Y)), .int .u64 (dg3 (r.f.Y)), .int .u64 r.f.M, .int .u64 r.t.X, .int .u64 (dg0 (r.t.Y)), .int .u64 (dg1 (r.t.Y)), .int .u64 (dg2 (r.t.Y)), .int .u64 (dg3 (r.t.Y)), .int .u64 r.t.M, .bool true] 35 := Blk.below (by (repeat' (first | (with_reducible (first | assumption | exact Blk.alloc_new _ _ _ (by first | rfl | (simp; done) | omega) | apply Blk.drewN | apply Blk.drew | apply Blk.alloc_old | apply Blk.set_same | apply Blk.set_other)) | (show (_ : Nat) ≠ _; first | omega | (simp; done) | (simp; omega)) | ((simp only [List.setIfInBounds_toArray, List.set_cons_succ, List.set_cons_zero]); (with_reducible exact rfl)) | (with_reducible exact rfl) | (show (_ : Array Value) = _; exact rfl)))) hb2 (by first | (simp; done) | omega | (simp; omega))
  have W2 : Blk w2 (w.heap.size + 1) #[.int .u64 (dg0 (W)), .int .u64 (dg1 (W)), .int .u64 (dg2 (W)), .int .u64 (dg3 (W))] 31 := Blk.below (by (repeat' (first | (with_reducible (first | assumption | exact Blk.alloc_new _ _ _ (by first | rfl | (simp; done) | omega) | apply Blk.drewN | apply Blk.drew | apply Blk.alloc_old | apply Blk.set_same | apply Blk.set_other)) | (show (_ : Nat) ≠ _; first | omega | (simp; done) | (simp; omega)) | ((simp only [List.setIfInBounds_toArray, List.set_cons_succ, List.set_cons_zero]); (with_reducible exact rfl)) | (with_reducible exact rfl) | (show (_ : Array Value) = _; exact rfl)))) hb2 (by first | (simp; done) | omega | (simp; omega))
  have g2 : Below w.heap.size w w2 := by refine Below.trans ?_ (hb2.mono ?_) <;> (repeat' (first | (with_reducible (first | exact Below.refl _ _ | assumption | refine below_drewN ?_ _ | refine Below.drew ?_ | refine Below.alloc ?_ ?_ _ | refine Below.setCell ?_ ?_ _)) | go_size))
  have hz2 := hb2.size
  (try simp at hz2)
  clear hb2
  replace cA := A2.cell
  replace fA := A2.frozen
  replace zA := A2.size
  replace cW := W2.cell
  replace fW := W2.frozen
  replace zW := W2.size
  go_wp2_with fail
  refine (rnreachL r.f W p _ of hW Hp.out).mono ?_
  rintro e w3 ⟨rfl, hb3⟩
  have g3 : Below w.heap.size w w3 := by refine Below.trans ?_ (hb3.mono ?_) <;> (repeat' (first | (with_reducible (first | exact Below.refl _ _ | assumption | refine below_drewN ?_ _ | refine Below.drew ?_ | refine Below.alloc ?_ ?_ _ | refine Below.setCell ?_ ?_ _)) | go_size))
  have hz3 := hb3.size
  (try simp at hz3)
  clear hb3
  go_wp2
  go_ret
  exact ⟨rfl, by (repeat' (first | (with_reducible (first | exact Below.refl _ _ | assumption | refine below_drewN ?_ _ | refine Below.drew ?_ | refine Below.alloc ?_ ?_ _ | refine Below.setCell ?_ ?_ _)) | go_size))⟩
theorem rrunreach_tf (r : RN) (W p q : Int) (w : World) (hb : r.b = true) (ot : r.t.ok) (hW : In128 W) (hq : r.t.reach W = q) (of : r.f.ok) (hp : r.f.reach W = p) (hlt : decide (q < p) = false) :
    Calls Try.prog 27 #[rrunv r, nv W] w fun e w' => e = .returned (.int .u64 q) ∧ Below w.heap.size w w' := by
  have Hq := hide hq; clear hq; have Hp := hide hp; clear hp
  rw [rrunv, hb]
  clear hb
  go_enter Try.func27, Try.ntmps27
  go_wp2_with fail
  refine (rnreachL r.t W q _ ot hW Hq.out).mono ?_
  rintro e w1 ⟨rfl, hb1⟩
  have A1 : Blk w1 (w.heap.size) #[.int .u64 r.f.X, .int .u64 (dg0 (r.f.Y)), .int .u64 (dg1 (r.f.Y)), .int .u64 (dg2 (r.f.Y)), .int .u64 (dg3 (r.f.Y)), .int .u64 r.f.M, .int .u64 r.t.X, .int .u64 (dg0 (r.t.Y)), .int .u64 (dg1 (r.t.Y)), .int .u64 (dg2 (r.t.Y)), .int .u64 (dg3 (r.t.Y)), .int .u64 r.t.M, .bool true] 35 := Blk.below (by (repeat' (first | (with_reducible (first | assumption | exact Blk.alloc_new _ _ _ (by first | rfl | (simp; done) | omega) | apply Blk.drewN | apply Blk.drew | apply Blk.alloc_old | apply Blk.set_same | apply Blk.set_other)) | (show (_ : Nat) ≠ _; first | omega | (simp; done) | (simp; omega)) | ((simp only [List.setIfInBounds_toArray, List.set_cons_succ, List.set_cons_zero]); (with_reducible exact rfl)) | (with_reducible exact rfl) | (show (_ : Array Value) = _; exact rfl)))) hb1 (by first | (simp; done) | omega | (simp; omega))
  have W1 : Blk w1 (w.heap.size + 1) #[.int .u64 (dg0 (W)), .int .u64 (dg1 (W)), .int .u64 (dg2 (W)), .int .u64 (dg3 (W))] 31 := Blk.below (by (repeat' (first | (with_reducible (first | assumption | exact Blk.alloc_new _ _ _ (by first | rfl | (simp; done) | omega) | apply Blk.drewN | apply Blk.drew | apply Blk.alloc_old | apply Blk.set_same | apply Blk.set_other)) | (show (_ : Nat) ≠ _; first | omega | (simp; done) | (simp; omega)) | ((simp only [List.setIfInBounds_toArray, List.set_cons_succ, List.set_cons_zero]); (with_reducible exact rfl)) | (with_reducible exact rfl) | (show (_ : Array Value) = _; exact rfl)))) hb1 (by first | (simp; done) | omega | (simp; omega))
  have g1 : Below w.heap.size w w1 := by refine Below.trans ?_ (hb1.mono ?_) <;> (repeat' (first | (with_reducible (first | exact Below.refl _ _ | assumption | refine below_drewN ?_ _ | refine Below.drew ?_ | refine Below.alloc ?_ ?_ _ | refine Below.setCell ?_ ?_ _)) | go_size))
  have hz1 := hb1.size
  (try simp at hz1)
  clear hb1
  replace cA := A1.cell
  replace fA := A1.frozen
  replace zA := A1.size
  replace cW := W1.cell
  replace fW := W1.frozen
  replace zW := W1.size
  go_wp2_with fail
  refine (rnreachL r.f W p _ of hW Hp.out).mono ?_
  rintro e w2 ⟨rfl, hb2⟩
  have A2 : Blk w2 (w.heap.size) #[.int .u64 r.f.X, .int .u64 (dg0 (r.f.Y)), .int .u64 (dg1 (r.f.Y)), .int .u64 (dg2 (r.f.Y)), .int .u64 (dg3 (r.f.Y)), .int .u64 r.f.M, .int .u64 r.t.X, .int .u64 (dg0 (r.t.Y)), .int .u64 (dg1 (r.t.Y)), .int .u64 (dg2 (r.t.Y)), .int .u64 (dg3 (r.t.Y)), .int .u64 r.t.M, .bool true] 35 := Blk.below (by (repeat' (first | (with_reducible (first | assumption | exact Blk.alloc_new _ _ _ (by first | rfl | (simp; done) | omega) | apply Blk.drewN | apply Blk.drew | apply Blk.alloc_old | apply Blk.set_same | apply Blk.set_other)) | (show (_ : Nat) ≠ _; first | omega | (simp; done) | (simp; omega)) | ((simp only [List.setIfInBounds_toArray, List.set_cons_succ, List.set_cons_zero]); (with_reducible exact rfl)) | (with_reducible exact rfl) | (show (_ : Array Value) = _; exact rfl)))) hb2 (by first | (simp; done) | omega | (simp; omega))
  have W2 : Blk w2 (w.heap.size + 1) #[.int .u64 (dg0 (W)), .int .u64 (dg1 (W)), .int .u64 (dg2 (W)), .int .u64 (dg3 (W))] 31 := Blk.below (by (repeat' (first | (with_reducible (first | assumption | exact Blk.alloc_new _ _ _ (by first | rfl | (simp; done) | omega) | apply Blk.drewN | apply Blk.drew | apply Blk.alloc_old | apply Blk.set_same | apply Blk.set_other)) | (show (_ : Nat) ≠ _; first | omega | (simp; done) | (simp; omega)) | ((simp only [List.setIfInBounds_toArray, List.set_cons_succ, List.set_cons_zero]); (with_reducible exact rfl)) | (with_reducible exact rfl) | (show (_ : Array Value) = _; exact rfl)))) hb2 (by first | (simp; done) | omega | (simp; omega))
  have g2 : Below w.heap.size w w2 := by refine Below.trans ?_ (hb2.mono ?_) <;> (repeat' (first | (with_reducible (first | exact Below.refl _ _ | assumption | refine below_drewN ?_ _ | refine Below.drew ?_ | refine Below.alloc ?_ ?_ _ | refine Below.setCell ?_ ?_ _)) | go_size))
  have hz2 := hb2.size
  (try simp at hz2)
  clear hb2
  replace cA := A2.cell
  replace fA := A2.frozen
  replace zA := A2.size
  replace cW := W2.cell
  replace fW := W2.frozen
  replace zW := W2.size
  go_wp2
  go_ret
  exact ⟨rfl, by (repeat' (first | (with_reducible (first | exact Below.refl _ _ | assumption | refine below_drewN ?_ _ | refine Below.drew ?_ | refine Below.alloc ?_ ?_ _ | refine Below.setCell ?_ ?_ _)) | go_size))⟩
theorem rrunreach (r : RN) (W s : Int) (w : World) (h : r.ok) (hW : In128 W) (hs : r.reach W = s) :
    Calls Try.prog 27 #[rrunv r, nv W] w fun e w' => e = .returned (.int .u64 s) ∧ Below w.heap.size w w' := by
  unfold RN.reach at hs
  rcases hb : r.b with _ | _
  · rw [hb] at hs; simp only [Bool.false_eq_true, if_false] at hs
    exact rrunreach_f r W 0 s w hb h.2 hW hs
  · rw [hb] at hs; simp only [if_true] at hs
    by_cases hlt : r.t.reach W < r.f.reach W
    · obtain rfl : s = r.f.reach W := by omega
      exact rrunreach_tt r W _ _ w hb h.2 hW rfl h.1 rfl (decide_eq_true hlt)
    · obtain rfl : s = r.t.reach W := by omega
      exact rrunreach_tf r W _ _ w hb h.2 hW rfl h.1 rfl (decide_eq_false hlt)
end Go.Proofs.Ytaaoadbcgnedkaa
