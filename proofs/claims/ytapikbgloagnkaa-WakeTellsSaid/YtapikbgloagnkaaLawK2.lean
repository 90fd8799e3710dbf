/-
  The statement WakeTells: when the next pick comes, from any tick on, and in how many ticks the link is idle. Conditions: none.
-/
import Derived.Test.YtapikbgloagnkaaLawK1
namespace Go.Proofs.Ytapikbgloagnkaa
open Go.ChangeShapes Go.WideShapes Go.ChangeAt Go.RowKit
open Go.ChangeMaps (open_string shut_string)
set_option linter.unusedVariables false

theorem vrNext_of (n u d c : Int) (w : World) (h : nxt n u d = c) :
    Calls Try.prog 15 #[.int .u64 n, .int .u64 u, .int .u64 d] w fun e w' => e = .returned (.int .u64 c) ∧ Below w.heap.size w w' :=
  (vrNext n u d w).mono fun e w' ⟨h1, h2⟩ => ⟨by rw [h1, h], by subst h2; exact Below.refl _ _⟩
theorem vrIdle_b (n u d t : Int) (w : World) (hn : 0 ≤ n ∧ n ≤ 18446744073709551615) (hu : 0 ≤ u ∧ u ≤ 18446744073709551615) (hd : 0 ≤ d ∧ d ≤ 18446744073709551615) (ht : 0 ≤ t ∧ t ≤ 18446744073709551615) :
    Calls Try.prog 17 #[.int .u64 n, .int .u64 u, .int .u64 d, .int .u64 t] w fun e w' => e = .returned (.int .u64 (idl n u d t)) ∧ Below w.heap.size w w' :=
  (vrIdle n u d t w hn hu hd ht).mono fun e w' ⟨h1, h2⟩ => ⟨h1, by subst h2; exact Below.refl _ _⟩
set_option maxHeartbeats 2000000 in
theorem WT_never (n : Int) (hn : 0 ≤ n ∧ n ≤ 18446744073709551615) (u : Int) (hu : 0 ≤ u ∧ u ≤ 18446744073709551615) (d : Int) (hd : 0 ≤ d ∧ d ≤ 18446744073709551615) (t : Int) (ht : 0 ≤ t ∧ t ≤ 18446744073709551615) (w : World) (x : Int) (hx : Hid (nxt n u d = x)) (hxr : 0 ≤ x ∧ x ≤ 18446744073709551615) (h : x = 9223372036854775808) :
    Calls Try.prog 3 #[.int .u64 n, .agg #[.int .u64 u, .int .u64 d], .int .u64 t] w fun e w' => e = .returned (.bool true) ∧ Below w.heap.size w w' := by
  have r2 : 0 ≤ idl n u d t := by unfold idl; omega
  have hb : (x == 9223372036854775808) = true := beq_iff_eq.2 h
  have hw := hide (show wai n u d = x by unfold wai; rw [hx.out, if_pos h])
  clear h
  go_enter Try.func3, Try.ntmps3
  go_wp2_with fail
  refine (vNext_of n u d x _ hn hu hd hx.out).mono ?_
  rintro e w1 ⟨rfl, hb1⟩
  have Q1 : Blk w1 (w.heap.size) #[.int .u64 u, .int .u64 d] 23 := Blk.below (by (repeat' (first | (with_reducible assumption) | (with_reducible exact Blk.alloc_new _ _ _ (by first | rfl | (simp; done) | omega)) | (with_reducible refine Blk.drewN ?_ _) | (with_reducible refine Blk.drew ?_) | (with_reducible refine Blk.alloc_old ?_ _) | (with_reducible apply Blk.set_same) | (with_reducible refine Blk.set_other ?_ (by first | omega | (simp; done) | (simp; omega)) _) | (exact rfl)))) hb1 (by first | (simp; done) | omega | (simp; omega))
  have g1 : Below w.heap.size w w1 := by refine Below.trans ?_ (hb1.mono ?_) <;> (repeat' (first | (with_reducible exact Below.refl _ _) | (with_reducible assumption) | (with_reducible refine below_drewN ?_ _) | (with_reducible refine Below.drew ?_) | (with_reducible refine Below.alloc ?_ ?_ _) | (with_reducible refine Below.setCell ?_ ?_ _) | go_size))
  have hz1 := hb1.size
  (try simp at hz1)
  clear hb1
  replace cQ := Q1.cell
  replace fQ := Q1.frozen
  replace zQ := Q1.size
  go_wp2_with fail
  go_region_held3 (fun v => v.cell? ⟨w.heap.size, 0, none⟩ = some (.int .u64 u) ∧ v.cell? ⟨w.heap.size, 1, none⟩ = some (.int .u64 d) ∧ w.heap.size < v.heap.size ∧ Blk v (w.heap.size) #[.int .u64 u, .int .u64 d] 23 ∧ Below w.heap.size w v)
    (first
      | (refine ⟨?_, ?_, ?_, ?_, ?_⟩ <;> first | (with_reducible assumption) | ((repeat' (first | (with_reducible assumption) | (with_reducible exact Blk.alloc_new _ _ _ (by first | rfl | (simp; done) | omega)) | (with_reducible refine Blk.drewN ?_ _) | (with_reducible refine Blk.drew ?_) | (with_reducible refine Blk.alloc_old ?_ _) | (with_reducible apply Blk.set_same) | (with_reducible refine Blk.set_other ?_ (by first | omega | (simp; done) | (simp; omega)) _) | (exact rfl))); done) | ((repeat' (first | (with_reducible exact Below.refl _ _) | (with_reducible assumption) | (with_reducible refine below_drewN ?_ _) | (with_reducible refine Below.drew ?_) | (with_reducible refine Below.alloc ?_ ?_ _) | (with_reducible refine Below.setCell ?_ ?_ _) | go_size)); done) | omega | (go_simp; done) | (simp; done)))
    (first
      | (go_at_call 15; refine (vrNext_of n u d x _ hx.out).mono ?_; rintro e w' ⟨rfl, hb'⟩; have hbx : Below w.heap.size w w' := (by refine Below.trans ?_ (Below.mono hb' ?_) <;> (repeat' (first | (with_reducible exact Below.refl _ _) | (with_reducible assumption) | (with_reducible refine below_drewN ?_ _) | (with_reducible refine Below.drew ?_) | (with_reducible refine Below.alloc ?_ ?_ _) | (with_reducible refine Below.setCell ?_ ?_ _) | go_size))); have hbs := hb'.size; (try simp at hbs); have hkQ : Blk w' (w.heap.size) #[.int .u64 u, .int .u64 d] 23 := Blk.below (by (repeat' (first | (with_reducible assumption) | (with_reducible exact Blk.alloc_new _ _ _ (by first | rfl | (simp; done) | omega)) | (with_reducible refine Blk.drewN ?_ _) | (with_reducible refine Blk.drew ?_) | (with_reducible refine Blk.alloc_old ?_ _) | (with_reducible apply Blk.set_same) | (with_reducible refine Blk.set_other ?_ (by first | omega | (simp; done) | (simp; omega)) _) | (exact rfl)))) hb' (by first | (simp; done) | omega | (simp; omega)); have hqQ0 : w'.cell? ⟨w.heap.size, 0, none⟩ = some (.int .u64 u) := hkQ.cell 0; have hqQ1 : w'.cell? ⟨w.heap.size, 1, none⟩ = some (.int .u64 d) := hkQ.cell 1; have hzQ := hkQ.size; clear hb')
      | (go_at_call 16; refine (vIdle n u d t _ hn hu hd ht).mono ?_; rintro e w' ⟨rfl, hb'⟩; have hbx : Below w.heap.size w w' := (by refine Below.trans ?_ (Below.mono hb' ?_) <;> (repeat' (first | (with_reducible exact Below.refl _ _) | (with_reducible assumption) | (with_reducible refine below_drewN ?_ _) | (with_reducible refine Below.drew ?_) | (with_reducible refine Below.alloc ?_ ?_ _) | (with_reducible refine Below.setCell ?_ ?_ _) | go_size))); have hbs := hb'.size; (try simp at hbs); have hkQ : Blk w' (w.heap.size) #[.int .u64 u, .int .u64 d] 23 := Blk.below (by (repeat' (first | (with_reducible assumption) | (with_reducible exact Blk.alloc_new _ _ _ (by first | rfl | (simp; done) | omega)) | (with_reducible refine Blk.drewN ?_ _) | (with_reducible refine Blk.drew ?_) | (with_reducible refine Blk.alloc_old ?_ _) | (with_reducible apply Blk.set_same) | (with_reducible refine Blk.set_other ?_ (by first | omega | (simp; done) | (simp; omega)) _) | (exact rfl)))) hb' (by first | (simp; done) | omega | (simp; omega)); have hqQ0 : w'.cell? ⟨w.heap.size, 0, none⟩ = some (.int .u64 u) := hkQ.cell 0; have hqQ1 : w'.cell? ⟨w.heap.size, 1, none⟩ = some (.int .u64 d) := hkQ.cell 1; have hzQ := hkQ.size; clear hb')
      | (go_at_call 17; refine (vrIdle_b n u d t _ hn hu hd ht).mono ?_; rintro e w' ⟨rfl, hb'⟩; have hbx : Below w.heap.size w w' := (by refine Below.trans ?_ (Below.mono hb' ?_) <;> (repeat' (first | (with_reducible exact Below.refl _ _) | (with_reducible assumption) | (with_reducible refine below_drewN ?_ _) | (with_reducible refine Below.drew ?_) | (with_reducible refine Below.alloc ?_ ?_ _) | (with_reducible refine Below.setCell ?_ ?_ _) | go_size))); have hbs := hb'.size; (try simp at hbs); have hkQ : Blk w' (w.heap.size) #[.int .u64 u, .int .u64 d] 23 := Blk.below (by (repeat' (first | (with_reducible assumption) | (with_reducible exact Blk.alloc_new _ _ _ (by first | rfl | (simp; done) | omega)) | (with_reducible refine Blk.drewN ?_ _) | (with_reducible refine Blk.drew ?_) | (with_reducible refine Blk.alloc_old ?_ _) | (with_reducible apply Blk.set_same) | (with_reducible refine Blk.set_other ?_ (by first | omega | (simp; done) | (simp; omega)) _) | (exact rfl)))) hb' (by first | (simp; done) | omega | (simp; omega)); have hqQ0 : w'.cell? ⟨w.heap.size, 0, none⟩ = some (.int .u64 u) := hkQ.cell 0; have hqQ1 : w'.cell? ⟨w.heap.size, 1, none⟩ = some (.int .u64 d) := hkQ.cell 1; have hzQ := hkQ.size; clear hb'))
  go_wp2_with fail
  refine (vWait_of n u d x _ hn hu hd hw.out).mono ?_
  rintro e w2 ⟨rfl, hb2⟩
  have Q2 : Blk w2 (w.heap.size) #[.int .u64 u, .int .u64 d] 23 := Blk.below (by (repeat' (first | (with_reducible assumption) | (with_reducible exact Blk.alloc_new _ _ _ (by first | rfl | (simp; done) | omega)) | (with_reducible refine Blk.drewN ?_ _) | (with_reducible refine Blk.drew ?_) | (with_reducible refine Blk.alloc_old ?_ _) | (with_reducible apply Blk.set_same) | (with_reducible refine Blk.set_other ?_ (by first | omega | (simp; done) | (simp; omega)) _) | (exact rfl)))) hb2 (by first | (simp; done) | omega | (simp; omega))
  have g2 : Below w.heap.size w w2 := by refine Below.trans ?_ (hb2.mono ?_) <;> (repeat' (first | (with_reducible exact Below.refl _ _) | (with_reducible assumption) | (with_reducible refine below_drewN ?_ _) | (with_reducible refine Below.drew ?_) | (with_reducible refine Below.alloc ?_ ?_ _) | (with_reducible refine Below.setCell ?_ ?_ _) | go_size))
  have hz2 := hb2.size
  (try simp at hz2)
  clear hb2
  replace cQ := Q2.cell
  replace fQ := Q2.frozen
  replace zQ := Q2.size
  go_wp2_with fail
  refine (nine_true _).mono ?_
  rintro e w3 ⟨rfl, hb3⟩
  have g3 : Below w.heap.size w w3 := by refine Below.trans ?_ (hb3.mono ?_) <;> (repeat' (first | (with_reducible exact Below.refl _ _) | (with_reducible assumption) | (with_reducible refine below_drewN ?_ _) | (with_reducible refine Below.drew ?_) | (with_reducible refine Below.alloc ?_ ?_ _) | (with_reducible refine Below.setCell ?_ ?_ _) | go_size))
  have hz3 := hb3.size
  (try simp at hz3)
  clear hb3
  go_wp2
  go_ret
  exact ⟨rfl, by (repeat' (first | (with_reducible exact Below.refl _ _) | (with_reducible assumption) | (with_reducible refine below_drewN ?_ _) | (with_reducible refine Below.drew ?_) | (with_reducible refine Below.alloc ?_ ?_ _) | (with_reducible refine Below.setCell ?_ ?_ _) | go_size))⟩
set_option maxHeartbeats 2000000 in
theorem WT_n (n : Int) (hn : 0 ≤ n ∧ n ≤ 18446744073709551615) (u : Int) (hu : 0 ≤ u ∧ u ≤ 18446744073709551615) (d : Int) (hd : 0 ≤ d ∧ d ≤ 18446744073709551615) (t : Int) (ht : 0 ≤ t ∧ t ≤ 18446744073709551615) (w : World) (x : Int) (hx : Hid (nxt n u d = x)) (hxr : 0 ≤ x ∧ x ≤ 18446744073709551615) (h : ¬ x = 9223372036854775808) (h1 : n ≤ x) (h2 : u ≤ x) (h3 : d ≤ x) (h4 : x = n) :
    Calls Try.prog 3 #[.int .u64 n, .agg #[.int .u64 u, .int .u64 d], .int .u64 t] w fun e w' => e = .returned (.bool true) ∧ Below w.heap.size w w' := by
  have r2 : 0 ≤ idl n u d t := by unfold idl; omega
  have hb : (x == 9223372036854775808) = false := beq_eq_false_iff_ne.2 h
  have hw := hide (show wai n u d = x - n by unfold wai; rw [hx.out, if_neg h])
  clear h
  have h0 : n + (x - n) = x := by omega
  have c1 : (x == n) = true := beq_iff_eq.2 h4
  clear h4
  go_enter Try.func3, Try.ntmps3
  go_wp2_with fail
  refine (vNext_of n u d x _ hn hu hd hx.out).mono ?_
  rintro e w1 ⟨rfl, hb1⟩
  have Q1 : Blk w1 (w.heap.size) #[.int .u64 u, .int .u64 d] 23 := Blk.below (by (repeat' (first | (with_reducible assumption) | (with_reducible exact Blk.alloc_new _ _ _ (by first | rfl | (simp; done) | omega)) | (with_reducible refine Blk.drewN ?_ _) | (with_reducible refine Blk.drew ?_) | (with_reducible refine Blk.alloc_old ?_ _) | (with_reducible apply Blk.set_same) | (with_reducible refine Blk.set_other ?_ (by first | omega | (simp; done) | (simp; omega)) _) | (exact rfl)))) hb1 (by first | (simp; done) | omega | (simp; omega))
  have g1 : Below w.heap.size w w1 := by refine Below.trans ?_ (hb1.mono ?_) <;> (repeat' (first | (with_reducible exact Below.refl _ _) | (with_reducible assumption) | (with_reducible refine below_drewN ?_ _) | (with_reducible refine Below.drew ?_) | (with_reducible refine Below.alloc ?_ ?_ _) | (with_reducible refine Below.setCell ?_ ?_ _) | go_size))
  have hz1 := hb1.size
  (try simp at hz1)
  clear hb1
  replace cQ := Q1.cell
  replace fQ := Q1.frozen
  replace zQ := Q1.size
  go_wp2_with fail
  go_region_held3 (fun v => v.cell? ⟨w.heap.size, 0, none⟩ = some (.int .u64 u) ∧ v.cell? ⟨w.heap.size, 1, none⟩ = some (.int .u64 d) ∧ w.heap.size < v.heap.size ∧ Blk v (w.heap.size) #[.int .u64 u, .int .u64 d] 23 ∧ Below w.heap.size w v)
    (first
      | (refine ⟨?_, ?_, ?_, ?_, ?_⟩ <;> first | (with_reducible assumption) | ((repeat' (first | (with_reducible assumption) | (with_reducible exact Blk.alloc_new _ _ _ (by first | rfl | (simp; done) | omega)) | (with_reducible refine Blk.drewN ?_ _) | (with_reducible refine Blk.drew ?_) | (with_reducible refine Blk.alloc_old ?_ _) | (with_reducible apply Blk.set_same) | (with_reducible refine Blk.set_other ?_ (by first | omega | (simp; done) | (simp; omega)) _) | (exact rfl))); done) | ((repeat' (first | (with_reducible exact Below.refl _ _) | (with_reducible assumption) | (with_reducible refine below_drewN ?_ _) | (with_reducible refine Below.drew ?_) | (with_reducible refine Below.alloc ?_ ?_ _) | (with_reducible refine Below.setCell ?_ ?_ _) | go_size)); done) | omega | (go_simp; done) | (simp; done)))
    (first
      | (go_at_call 15; refine (vrNext_of n u d x _ hx.out).mono ?_; rintro e w' ⟨rfl, hb'⟩; have hbx : Below w.heap.size w w' := (by refine Below.trans ?_ (Below.mono hb' ?_) <;> (repeat' (first | (with_reducible exact Below.refl _ _) | (with_reducible assumption) | (with_reducible refine below_drewN ?_ _) | (with_reducible refine Below.drew ?_) | (with_reducible refine Below.alloc ?_ ?_ _) | (with_reducible refine Below.setCell ?_ ?_ _) | go_size))); have hbs := hb'.size; (try simp at hbs); have hkQ : Blk w' (w.heap.size) #[.int .u64 u, .int .u64 d] 23 := Blk.below (by (repeat' (first | (with_reducible assumption) | (with_reducible exact Blk.alloc_new _ _ _ (by first | rfl | (simp; done) | omega)) | (with_reducible refine Blk.drewN ?_ _) | (with_reducible refine Blk.drew ?_) | (with_reducible refine Blk.alloc_old ?_ _) | (with_reducible apply Blk.set_same) | (with_reducible refine Blk.set_other ?_ (by first | omega | (simp; done) | (simp; omega)) _) | (exact rfl)))) hb' (by first | (simp; done) | omega | (simp; omega)); have hqQ0 : w'.cell? ⟨w.heap.size, 0, none⟩ = some (.int .u64 u) := hkQ.cell 0; have hqQ1 : w'.cell? ⟨w.heap.size, 1, none⟩ = some (.int .u64 d) := hkQ.cell 1; have hzQ := hkQ.size; clear hb')
      | (go_at_call 16; refine (vIdle n u d t _ hn hu hd ht).mono ?_; rintro e w' ⟨rfl, hb'⟩; have hbx : Below w.heap.size w w' := (by refine Below.trans ?_ (Below.mono hb' ?_) <;> (repeat' (first | (with_reducible exact Below.refl _ _) | (with_reducible assumption) | (with_reducible refine below_drewN ?_ _) | (with_reducible refine Below.drew ?_) | (with_reducible refine Below.alloc ?_ ?_ _) | (with_reducible refine Below.setCell ?_ ?_ _) | go_size))); have hbs := hb'.size; (try simp at hbs); have hkQ : Blk w' (w.heap.size) #[.int .u64 u, .int .u64 d] 23 := Blk.below (by (repeat' (first | (with_reducible assumption) | (with_reducible exact Blk.alloc_new _ _ _ (by first | rfl | (simp; done) | omega)) | (with_reducible refine Blk.drewN ?_ _) | (with_reducible refine Blk.drew ?_) | (with_reducible refine Blk.alloc_old ?_ _) | (with_reducible apply Blk.set_same) | (with_reducible refine Blk.set_other ?_ (by first | omega | (simp; done) | (simp; omega)) _) | (exact rfl)))) hb' (by first | (simp; done) | omega | (simp; omega)); have hqQ0 : w'.cell? ⟨w.heap.size, 0, none⟩ = some (.int .u64 u) := hkQ.cell 0; have hqQ1 : w'.cell? ⟨w.heap.size, 1, none⟩ = some (.int .u64 d) := hkQ.cell 1; have hzQ := hkQ.size; clear hb')
      | (go_at_call 17; refine (vrIdle_b n u d t _ hn hu hd ht).mono ?_; rintro e w' ⟨rfl, hb'⟩; have hbx : Below w.heap.size w w' := (by refine Below.trans ?_ (Below.mono hb' ?_) <;> (repeat' (first | (with_reducible exact Below.refl _ _) | (with_reducible assumption) | (with_reducible refine below_drewN ?_ _) | (with_reducible refine Below.drew ?_) | (with_reducible refine Below.alloc ?_ ?_ _) | (with_reducible refine Below.setCell ?_ ?_ _) | go_size))); have hbs := hb'.size; (try simp at hbs); have hkQ : Blk w' (w.heap.size) #[.int .u64 u, .int .u64 d] 23 := Blk.below (by (repeat' (first | (with_reducible assumption) | (with_reducible exact Blk.alloc_new _ _ _ (by first | rfl | (simp; done) | omega)) | (with_reducible refine Blk.drewN ?_ _) | (with_reducible refine Blk.drew ?_) | (with_reducible refine Blk.alloc_old ?_ _) | (with_reducible apply Blk.set_same) | (with_reducible refine Blk.set_other ?_ (by first | omega | (simp; done) | (simp; omega)) _) | (exact rfl)))) hb' (by first | (simp; done) | omega | (simp; omega)); have hqQ0 : w'.cell? ⟨w.heap.size, 0, none⟩ = some (.int .u64 u) := hkQ.cell 0; have hqQ1 : w'.cell? ⟨w.heap.size, 1, none⟩ = some (.int .u64 d) := hkQ.cell 1; have hzQ := hkQ.size; clear hb'))
  go_wp2_with fail
  refine (vWait_of n u d (x - n) _ hn hu hd hw.out).mono ?_
  rintro e w2 ⟨rfl, hb2⟩
  have Q2 : Blk w2 (w.heap.size) #[.int .u64 u, .int .u64 d] 23 := Blk.below (by (repeat' (first | (with_reducible assumption) | (with_reducible exact Blk.alloc_new _ _ _ (by first | rfl | (simp; done) | omega)) | (with_reducible refine Blk.drewN ?_ _) | (with_reducible refine Blk.drew ?_) | (with_reducible refine Blk.alloc_old ?_ _) | (with_reducible apply Blk.set_same) | (with_reducible refine Blk.set_other ?_ (by first | omega | (simp; done) | (simp; omega)) _) | (exact rfl)))) hb2 (by first | (simp; done) | omega | (simp; omega))
  have g2 : Below w.heap.size w w2 := by refine Below.trans ?_ (hb2.mono ?_) <;> (repeat' (first | (with_reducible exact Below.refl _ _) | (with_reducible assumption) | (with_reducible refine below_drewN ?_ _) | (with_reducible refine Below.drew ?_) | (with_reducible refine Below.alloc ?_ ?_ _) | (with_reducible refine Below.setCell ?_ ?_ _) | go_size))
  have hz2 := hb2.size
  (try simp at hz2)
  clear hb2
  replace cQ := Q2.cell
  replace fQ := Q2.frozen
  replace zQ := Q2.size
  go_wp2_with fail
  refine (nine_true _).mono ?_
  rintro e w3 ⟨rfl, hb3⟩
  have g3 : Below w.heap.size w w3 := by refine Below.trans ?_ (hb3.mono ?_) <;> (repeat' (first | (with_reducible exact Below.refl _ _) | (with_reducible assumption) | (with_reducible refine below_drewN ?_ _) | (with_reducible refine Below.drew ?_) | (with_reducible refine Below.alloc ?_ ?_ _) | (with_reducible refine Below.setCell ?_ ?_ _) | go_size))
  have hz3 := hb3.size
  (try simp at hz3)
  clear hb3
  go_wp2
  go_ret
  exact ⟨rfl, by (repeat' (first | (with_reducible exact Below.refl _ _) | (with_reducible assumption) | (with_reducible refine below_drewN ?_ _) | (with_reducible refine Below.drew ?_) | (with_reducible refine Below.alloc ?_ ?_ _) | (with_reducible refine Below.setCell ?_ ?_ _) | go_size))⟩
set_option maxHeartbeats 2000000 in
theorem WT_u (n : Int) (hn : 0 ≤ n ∧ n ≤ 18446744073709551615) (u : Int) (hu : 0 ≤ u ∧ u ≤ 18446744073709551615) (d : Int) (hd : 0 ≤ d ∧ d ≤ 18446744073709551615) (t : Int) (ht : 0 ≤ t ∧ t ≤ 18446744073709551615) (w : World) (x : Int) (hx : Hid (nxt n u d = x)) (hxr : 0 ≤ x ∧ x ≤ 18446744073709551615) (h : ¬ x = 9223372036854775808) (h1 : n ≤ x) (h2 : u ≤ x) (h3 : d ≤ x) (h4 : x = u) (h5 : ¬ x = n) :
    Calls Try.prog 3 #[.int .u64 n, .agg #[.int .u64 u, .int .u64 d], .int .u64 t] w fun e w' => e = .returned (.bool true) ∧ Below w.heap.size w w' := by
  have r2 : 0 ≤ idl n u d t := by unfold idl; omega
  have hb : (x == 9223372036854775808) = false := beq_eq_false_iff_ne.2 h
  have hw := hide (show wai n u d = x - n by unfold wai; rw [hx.out, if_neg h])
  clear h
  have h0 : n + (x - n) = x := by omega
  have c1 : (x == n) = false := beq_eq_false_iff_ne.2 h5
  have c2 : (x == u) = true := beq_iff_eq.2 h4
  clear h4 h5
  go_enter Try.func3, Try.ntmps3
  go_wp2_with fail
  refine (vNext_of n u d x _ hn hu hd hx.out).mono ?_
  rintro e w1 ⟨rfl, hb1⟩
  have Q1 : Blk w1 (w.heap.size) #[.int .u64 u, .int .u64 d] 23 := Blk.below (by (repeat' (first | (with_reducible assumption) | (with_reducible exact Blk.alloc_new _ _ _ (by first | rfl | (simp; done) | omega)) | (with_reducible refine Blk.drewN ?_ _) | (with_reducible refine Blk.drew ?_) | (with_reducible refine Blk.alloc_old ?_ _) | (with_reducible apply Blk.set_same) | (with_reducible refine Blk.set_other ?_ (by first | omega | (simp; done) | (simp; omega)) _) | (exact rfl)))) hb1 (by first | (simp; done) | omega | (simp; omega))
  have g1 : Below w.heap.size w w1 := by refine Below.trans ?_ (hb1.mono ?_) <;> (repeat' (first | (with_reducible exact Below.refl _ _) | (with_reducible assumption) | (with_reducible refine below_drewN ?_ _) | (with_reducible refine Below.drew ?_) | (with_reducible refine Below.alloc ?_ ?_ _) | (with_reducible refine Below.setCell ?_ ?_ _) | go_size))
  have hz1 := hb1.size
  (try simp at hz1)
  clear hb1
  replace cQ := Q1.cell
  replace fQ := Q1.frozen
  replace zQ := Q1.size
  go_wp2_with fail
  go_region_held3 (fun v => v.cell? ⟨w.heap.size, 0, none⟩ = some (.int .u64 u) ∧ v.cell? ⟨w.heap.size, 1, none⟩ = some (.int .u64 d) ∧ w.heap.size < v.heap.size ∧ Blk v (w.heap.size) #[.int .u64 u, .int .u64 d] 23 ∧ Below w.heap.size w v)
    (first
      | (refine ⟨?_, ?_, ?_, ?_, ?_⟩ <;> first | (with_reducible assumption) | ((repeat' (first | (with_reducible assumption) | (with_reducible exact Blk.alloc_new _ _ _ (by first | rfl | (simp; done) | omega)) | (with_reducible refine Blk.drewN ?_ _) | (with_reducible refine Blk.drew ?_) | (with_reducible refine Blk.alloc_old ?_ _) | (with_reducible apply Blk.set_same) | (with_reducible refine Blk.set_other ?_ (by first | omega | (simp; done) | (simp; omega)) _) | (exact rfl))); done) | ((repeat' (first | (with_reducible exact Below.refl _ _) | (with_reducible assumption) | (with_reducible refine below_drewN ?_ _) | (with_reducible refine Below.drew ?_) | (with_reducible refine Below.alloc ?_ ?_ _) | (with_reducible refine Below.setCell ?_ ?_ _) | go_size)); done) | omega | (go_simp; done) | (simp; done)))
    (first
      | (go_at_call 15; refine (vrNext_of n u d x _ hx.out).mono ?_; rintro e w' ⟨rfl, hb'⟩; have hbx : Below w.heap.size w w' := (by refine Below.trans ?_ (Below.mono hb' ?_) <;> (repeat' (first | (with_reducible exact Below.refl _ _) | (with_reducible assumption) | (with_reducible refine below_drewN ?_ _) | (with_reducible refine Below.drew ?_) | (with_reducible refine Below.alloc ?_ ?_ _) | (with_reducible refine Below.setCell ?_ ?_ _) | go_size))); have hbs := hb'.size; (try simp at hbs); have hkQ : Blk w' (w.heap.size) #[.int .u64 u, .int .u64 d] 23 := Blk.below (by (repeat' (first | (with_reducible assumption) | (with_reducible exact Blk.alloc_new _ _ _ (by first | rfl | (simp; done) | omega)) | (with_reducible refine Blk.drewN ?_ _) | (with_reducible refine Blk.drew ?_) | (with_reducible refine Blk.alloc_old ?_ _) | (with_reducible apply Blk.set_same) | (with_reducible refine Blk.set_other ?_ (by first | omega | (simp; done) | (simp; omega)) _) | (exact rfl)))) hb' (by first | (simp; done) | omega | (simp; omega)); have hqQ0 : w'.cell? ⟨w.heap.size, 0, none⟩ = some (.int .u64 u) := hkQ.cell 0; have hqQ1 : w'.cell? ⟨w.heap.size, 1, none⟩ = some (.int .u64 d) := hkQ.cell 1; have hzQ := hkQ.size; clear hb')
      | (go_at_call 16; refine (vIdle n u d t _ hn hu hd ht).mono ?_; rintro e w' ⟨rfl, hb'⟩; have hbx : Below w.heap.size w w' := (by refine Below.trans ?_ (Below.mono hb' ?_) <;> (repeat' (first | (with_reducible exact Below.refl _ _) | (with_reducible assumption) | (with_reducible refine below_drewN ?_ _) | (with_reducible refine Below.drew ?_) | (with_reducible refine Below.alloc ?_ ?_ _) | (with_reducible refine Below.setCell ?_ ?_ _) | go_size))); have hbs := hb'.size; (try simp at hbs); have hkQ : Blk w' (w.heap.size) #[.int .u64 u, .int .u64 d] 23 := Blk.below (by (repeat' (first | (with_reducible assumption) | (with_reducible exact Blk.alloc_new _ _ _ (by first | rfl | (simp; done) | omega)) | (with_reducible refine Blk.drewN ?_ _) | (with_reducible refine Blk.drew ?_) | (with_reducible refine Blk.alloc_old ?_ _) | (with_reducible apply Blk.set_same) | (with_reducible refine Blk.set_other ?_ (by first | omega | (simp; done) | (simp; omega)) _) | (exact rfl)))) hb' (by first | (simp; done) | omega | (simp; omega)); have hqQ0 : w'.cell? ⟨w.heap.size, 0, none⟩ = some (.int .u64 u) := hkQ.cell 0; have hqQ1 : w'.cell? ⟨w.heap.size, 1, none⟩ = some (.int .u64 d) := hkQ.cell 1; have hzQ := hkQ.size; clear hb')
      | (go_at_call 17; refine (vrIdle_b n u d t _ hn hu hd ht).mono ?_; rintro e w' ⟨rfl, hb'⟩; have hbx : Below w.heap.size w w' := (by refine Below.trans ?_ (Below.mono hb' ?_) <;> (repeat' (first | (with_reducible exact Below.refl _ _) | (with_reducible assumption) | (with_reducible refine below_drewN ?_ _) | (with_reducible refine Below.drew ?_) | (with_reducible refine Below.alloc ?_ ?_ _) | (with_reducible refine Below.setCell ?_ ?_ _) | go_size))); have hbs := hb'.size; (try simp at hbs); have hkQ : Blk w' (w.heap.size) #[.int .u64 u, .int .u64 d] 23 := Blk.below (by (repeat' (first | (with_reducible assumption) | (with_reducible exact Blk.alloc_new _ _ _ (by first | rfl | (simp; done) | omega)) | (with_reducible refine Blk.drewN ?_ _) | (with_reducible refine Blk.drew ?_) | (with_reducible refine Blk.alloc_old ?_ _) | (with_reducible apply Blk.set_same) | (with_reducible refine Blk.set_other ?_ (by first | omega | (simp; done) | (simp; omega)) _) | (exact rfl)))) hb' (by first | (simp; done) | omega | (simp; omega)); have hqQ0 : w'.cell? ⟨w.heap.size, 0, none⟩ = some (.int .u64 u) := hkQ.cell 0; have hqQ1 : w'.cell? ⟨w.heap.size, 1, none⟩ = some (.int .u64 d) := hkQ.cell 1; have hzQ := hkQ.size; clear hb'))
  go_wp2_with fail
  refine (vWait_of n u d (x - n) _ hn hu hd hw.out).mono ?_
  rintro e w2 ⟨rfl, hb2⟩
  have Q2 : Blk w2 (w.heap.size) #[.int .u64 u, .int .u64 d] 23 := Blk.below (by (repeat' (first | (with_reducible assumption) | (with_reducible exact Blk.alloc_new _ _ _ (by first | rfl | (simp; done) | omega)) | (with_reducible refine Blk.drewN ?_ _) | (with_reducible refine Blk.drew ?_) | (with_reducible refine Blk.alloc_old ?_ _) | (with_reducible apply Blk.set_same) | (with_reducible refine Blk.set_other ?_ (by first | omega | (simp; done) | (simp; omega)) _) | (exact rfl)))) hb2 (by first | (simp; done) | omega | (simp; omega))
  have g2 : Below w.heap.size w w2 := by refine Below.trans ?_ (hb2.mono ?_) <;> (repeat' (first | (with_reducible exact Below.refl _ _) | (with_reducible assumption) | (with_reducible refine below_drewN ?_ _) | (with_reducible refine Below.drew ?_) | (with_reducible refine Below.alloc ?_ ?_ _) | (with_reducible refine Below.setCell ?_ ?_ _) | go_size))
  have hz2 := hb2.size
  (try simp at hz2)
  clear hb2
  replace cQ := Q2.cell
  replace fQ := Q2.frozen
  replace zQ := Q2.size
  go_wp2_with fail
  refine (nine_true _).mono ?_
  rintro e w3 ⟨rfl, hb3⟩
  have g3 : Below w.heap.size w w3 := by refine Below.trans ?_ (hb3.mono ?_) <;> (repeat' (first | (with_reducible exact Below.refl _ _) | (with_reducible assumption) | (with_reducible refine below_drewN ?_ _) | (with_reducible refine Below.drew ?_) | (with_reducible refine Below.alloc ?_ ?_ _) | (with_reducible refine Below.setCell ?_ ?_ _) | go_size))
  have hz3 := hb3.size
  (try simp at hz3)
  clear hb3
  go_wp2
  go_ret
  exact ⟨rfl, by (repeat' (first | (with_reducible exact Below.refl _ _) | (with_reducible assumption) | (with_reducible refine below_drewN ?_ _) | (with_reducible refine Below.drew ?_) | (with_reducible refine Below.alloc ?_ ?_ _) | (with_reducible refine Below.setCell ?_ ?_ _) | go_size))⟩
set_option maxHeartbeats 2000000 in
theorem WT_d (n : Int) (hn : 0 ≤ n ∧ n ≤ 18446744073709551615) (u : Int) (hu : 0 ≤ u ∧ u ≤ 18446744073709551615) (d : Int) (hd : 0 ≤ d ∧ d ≤ 18446744073709551615) (t : Int) (ht : 0 ≤ t ∧ t ≤ 18446744073709551615) (w : World) (x : Int) (hx : Hid (nxt n u d = x)) (hxr : 0 ≤ x ∧ x ≤ 18446744073709551615) (h : ¬ x = 9223372036854775808) (h1 : n ≤ x) (h2 : u ≤ x) (h3 : d ≤ x) (h4 : x = d) (h5 : ¬ x = n) (h6 : ¬ x = u) :
    Calls Try.prog 3 #[.int .u64 n, .agg #[.int .u64 u, .int .u64 d], .int .u64 t] w fun e w' => e = .returned (.bool true) ∧ Below w.heap.size w w' := by
  have r2 : 0 ≤ idl n u d t := by unfold idl; omega
  have hb : (x == 9223372036854775808) = false := beq_eq_false_iff_ne.2 h
  have hw := hide (show wai n u d = x - n by unfold wai; rw [hx.out, if_neg h])
  clear h
  have h0 : n + (x - n) = x := by omega
  have c1 : (x == n) = false := beq_eq_false_iff_ne.2 h5
  have c2 : (x == u) = false := beq_eq_false_iff_ne.2 h6
  have c3 : (x == d) = true := beq_iff_eq.2 h4
  clear h4 h5 h6
  go_enter Try.func3, Try.ntmps3
  go_wp2_with fail
  refine (vNext_of n u d x _ hn hu hd hx.out).mono ?_
  rintro e w1 ⟨rfl, hb1⟩
  have Q1 : Blk w1 (w.heap.size) #[.int .u64 u, .int .u64 d] 23 := Blk.below (by (repeat' (first | (with_reducible assumption) | (with_reducible exact Blk.alloc_new _ _ _ (by first | rfl | (simp; done) | omega)) | (with_reducible refine Blk.drewN ?_ _) | (with_reducible refine Blk.drew ?_) | (with_reducible refine Blk.alloc_old ?_ _) | (with_reducible apply Blk.set_same) | (with_reducible refine Blk.set_other ?_ (by first | omega | (simp; done) | (simp; omega)) _) | (exact rfl)))) hb1 (by first | (simp; done) | omega | (simp; omega))
  have g1 : Below w.heap.size w w1 := by refine Below.trans ?_ (hb1.mono ?_) <;> (repeat' (first | (with_reducible exact Below.refl _ _) | (with_reducible assumption) | (with_reducible refine below_drewN ?_ _) | (with_reducible refine Below.drew ?_) | (with_reducible refine Below.alloc ?_ ?_ _) | (with_reducible refine Below.setCell ?_ ?_ _) | go_size))
  have hz1 := hb1.size
  (try simp at hz1)
  clear hb1
  replace cQ := Q1.cell
  replace fQ := Q1.frozen
  replace zQ := Q1.size
  go_wp2_with fail
  go_region_held3 (fun v => v.cell? ⟨w.heap.size, 0, none⟩ = some (.int .u64 u) ∧ v.cell? ⟨w.heap.size, 1, none⟩ = some (.int .u64 d) ∧ w.heap.size < v.heap.size ∧ Blk v (w.heap.size) #[.int .u64 u, .int .u64 d] 23 ∧ Below w.heap.size w v)
    (first
      | (refine ⟨?_, ?_, ?_, ?_, ?_⟩ <;> first | (with_reducible assumption) | ((repeat' (first | (with_reducible assumption) | (with_reducible exact Blk.alloc_new _ _ _ (by first | rfl | (simp; done) | omega)) | (with_reducible refine Blk.drewN ?_ _) | (with_reducible refine Blk.drew ?_) | (with_reducible refine Blk.alloc_old ?_ _) | (with_reducible apply Blk.set_same) | (with_reducible refine Blk.set_other ?_ (by first | omega | (simp; done) | (simp; omega)) _) | (exact rfl))); done) | ((repeat' (first | (with_reducible exact Below.refl _ _) | (with_reducible assumption) | (with_reducible refine below_drewN ?_ _) | (with_reducible refine Below.drew ?_) | (with_reducible refine Below.alloc ?_ ?_ _) | (with_reducible refine Below.setCell ?_ ?_ _) | go_size)); done) | omega | (go_simp; done) | (simp; done)))
    (first
      | (go_at_call 15; refine (vrNext_of n u d x _ hx.out).mono ?_; rintro e w' ⟨rfl, hb'⟩; have hbx : Below w.heap.size w w' := (by refine Below.trans ?_ (Below.mono hb' ?_) <;> (repeat' (first | (with_reducible exact Below.refl _ _) | (with_reducible assumption) | (with_reducible refine below_drewN ?_ _) | (with_reducible refine Below.drew ?_) | (with_reducible refine Below.alloc ?_ ?_ _) | (with_reducible refine Below.setCell ?_ ?_ _) | go_size))); have hbs := hb'.size; (try simp at hbs); have hkQ : Blk w' (w.heap.size) #[.int .u64 u, .int .u64 d] 23 := Blk.below (by (repeat' (first | (with_reducible assumption) | (with_reducible exact Blk.alloc_new _ _ _ (by first | rfl | (simp; done) | omega)) | (with_reducible refine Blk.drewN ?_ _) | (with_reducible refine Blk.drew ?_) | (with_reducible refine Blk.alloc_old ?_ _) | (with_reducible apply Blk.set_same) | (with_reducible refine Blk.set_other ?_ (by first | omega | (simp; done) | (simp; omega)) _) | (exact rfl)))) hb' (by first | (simp; done) | omega | (simp; omega)); have hqQ0 : w'.cell? ⟨w.heap.size, 0, none⟩ = some (.int .u64 u) := hkQ.cell 0; have hqQ1 : w'.cell? ⟨w.heap.size, 1, none⟩ = some (.int .u64 d) := hkQ.cell 1; have hzQ := hkQ.size; clear hb')
      | (go_at_call 16; refine (vIdle n u d t _ hn hu hd ht).mono ?_; rintro e w' ⟨rfl, hb'⟩; have hbx : Below w.heap.size w w' := (by refine Below.trans ?_ (Below.mono hb' ?_) <;> (repeat' (first | (with_reducible exact Below.refl _ _) | (with_reducible assumption) | (with_reducible refine below_drewN ?_ _) | (with_reducible refine Below.drew ?_) | (with_reducible refine Below.alloc ?_ ?_ _) | (with_reducible refine Below.setCell ?_ ?_ _) | go_size))); have hbs := hb'.size; (try simp at hbs); have hkQ : Blk w' (w.heap.size) #[.int .u64 u, .int .u64 d] 23 := Blk.below (by (repeat' (first | (with_reducible assumption) | (with_reducible exact Blk.alloc_new _ _ _ (by first | rfl | (simp; done) | omega)) | (with_reducible refine Blk.drewN ?_ _) | (with_reducible refine Blk.drew ?_) | (with_reducible refine Blk.alloc_old ?_ _) | (with_reducible apply Blk.set_same) | (with_reducible refine Blk.set_other ?_ (by first | omega | (simp; done) | (simp; omega)) _) | (exact rfl)))) hb' (by first | (simp; done) | omega | (simp; omega)); have hqQ0 : w'.cell? ⟨w.heap.size, 0, none⟩ = some (.int .u64 u) := hkQ.cell 0; have hqQ1 : w'.cell? ⟨w.heap.size, 1, none⟩ = some (.int .u64 d) := hkQ.cell 1; have hzQ := hkQ.size; clear hb')
      | (go_at_call 17; refine (vrIdle_b n u d t _ hn hu hd ht).mono ?_; rintro e w' ⟨rfl, hb'⟩; have hbx : Below w.heap.size w w' := (by refine Below.trans ?_ (Below.mono hb' ?_) <;> (repeat' (first | (with_reducible exact Below.refl _ _) | (with_reducible assumption) | (with_reducible refine below_drewN ?_ _) | (with_reducible refine Below.drew ?_) | (with_reducible refine Below.alloc ?_ ?_ _) | (with_reducible refine Below.setCell ?_ ?_ _) | go_size))); have hbs := hb'.size; (try simp at hbs); have hkQ : Blk w' (w.heap.size) #[.int .u64 u, .int .u64 d] 23 := Blk.below (by (repeat' (first | (with_reducible assumption) | (with_reducible exact Blk.alloc_new _ _ _ (by first | rfl | (simp; done) | omega)) | (with_reducible refine Blk.drewN ?_ _) | (with_reducible refine Blk.drew ?_) | (with_reducible refine Blk.alloc_old ?_ _) | (with_reducible apply Blk.set_same) | (with_reducible refine Blk.set_other ?_ (by first | omega | (simp; done) | (simp; omega)) _) | (exact rfl)))) hb' (by first | (simp; done) | omega | (simp; omega)); have hqQ0 : w'.cell? ⟨w.heap.size, 0, none⟩ = some (.int .u64 u) := hkQ.cell 0; have hqQ1 : w'.cell? ⟨w.heap.size, 1, none⟩ = some (.int .u64 d) := hkQ.cell 1; have hzQ := hkQ.size; clear hb'))
  go_wp2_with fail
  refine (vWait_of n u d (x - n) _ hn hu hd hw.out).mono ?_
  rintro e w2 ⟨rfl, hb2⟩
  have Q2 : Blk w2 (w.heap.size) #[.int .u64 u, .int .u64 d] 23 := Blk.below (by (repeat' (first | (with_reducible assumption) | (with_reducible exact Blk.alloc_new _ _ _ (by first | rfl | (simp; done) | omega)) | (with_reducible refine Blk.drewN ?_ _) | (with_reducible refine Blk.drew ?_) | (with_reducible refine Blk.alloc_old ?_ _) | (with_reducible apply Blk.set_same) | (with_reducible refine Blk.set_other ?_ (by first | omega | (simp; done) | (simp; omega)) _) | (exact rfl)))) hb2 (by first | (simp; done) | omega | (simp; omega))
  have g2 : Below w.heap.size w w2 := by refine Below.trans ?_ (hb2.mono ?_) <;> (repeat' (first | (with_reducible exact Below.refl _ _) | (with_reducible assumption) | (with_reducible refine below_drewN ?_ _) | (with_reducible refine Below.drew ?_) | (with_reducible refine Below.alloc ?_ ?_ _) | (with_reducible refine Below.setCell ?_ ?_ _) | go_size))
  have hz2 := hb2.size
  (try simp at hz2)
  clear hb2
  replace cQ := Q2.cell
  replace fQ := Q2.frozen
  replace zQ := Q2.size
  go_wp2_with fail
  refine (nine_true _).mono ?_
  rintro e w3 ⟨rfl, hb3⟩
  have g3 : Below w.heap.size w w3 := by refine Below.trans ?_ (hb3.mono ?_) <;> (repeat' (first | (with_reducible exact Below.refl _ _) | (with_reducible assumption) | (with_reducible refine below_drewN ?_ _) | (with_reducible refine Below.drew ?_) | (with_reducible refine Below.alloc ?_ ?_ _) | (with_reducible refine Below.setCell ?_ ?_ _) | go_size))
  have hz3 := hb3.size
  (try simp at hz3)
  clear hb3
  go_wp2
  go_ret
  exact ⟨rfl, by (repeat' (first | (with_reducible exact Below.refl _ _) | (with_reducible assumption) | (with_reducible refine below_drewN ?_ _) | (with_reducible refine Below.drew ?_) | (with_reducible refine Below.alloc ?_ ?_ _) | (with_reducible refine Below.setCell ?_ ?_ _) | go_size))⟩
theorem WakeTells_walk (n : Int) (hn : 0 ≤ n ∧ n ≤ 18446744073709551615) (u : Int) (hu : 0 ≤ u ∧ u ≤ 18446744073709551615) (d : Int) (hd : 0 ≤ d ∧ d ≤ 18446744073709551615) (t : Int) (ht : 0 ≤ t ∧ t ≤ 18446744073709551615) (w : World) :
    Calls Try.prog 3 #[.int .u64 n, .agg #[.int .u64 u, .int .u64 d], .int .u64 t] w fun e w' => e = .returned (.bool true) ∧ Below w.heap.size w w' := by
  have hr := nxt_rng hn hu hd
  by_cases h : nxt n u d = 9223372036854775808
  · exact WT_never n hn u hu d hd t ht w _ (hide rfl) hr h
  · have h1 : n ≤ nxt n u d := by unfold nxt at *; omega
    have h2 : u ≤ nxt n u d := by unfold nxt at *; omega
    have h3 : d ≤ nxt n u d := by unfold nxt at *; omega
    by_cases h4 : nxt n u d = n
    · exact WT_n n hn u hu d hd t ht w _ (hide rfl) hr h h1 h2 h3 h4
    · by_cases h5 : nxt n u d = u
      · exact WT_u n hn u hu d hd t ht w _ (hide rfl) hr h h1 h2 h3 h5 h4
      · exact WT_d n hn u hu d hd t ht w _ (hide rfl) hr h h1 h2 h3 (by unfold nxt at *; omega) h4 h5
namespace wakeTellsDone
theorem own : ownKnob Try.prog.godebug = none := by kernel_rfl
theorem laidOut : laidOutB Try.prog = true := by kernel_rfl
set_option maxRecDepth 100000 in
theorem lifted (os : Os) (started : os.Started) (H : Type) (enc : TypeId × Value → H) :
    ReturnsInHanded {} Try.checked os 3 .any (Rows.wakeTellsSpec.pre6 enc Try.prog Try.f3 Rows.wakeTellsRow.domain false) (Rows.wakeTellsSpec.post enc Try.prog Try.f3 false true false false) := by
  refine returnsInHanded_of_change (C := Try.checked) own started (by kernel_rfl) Try.func3
    (ChangeSpec.witness6 (enc := enc) (C := Try.checked) false ⟨#[], #[.int .u64 0, .agg #[.int .u64 0, .int .u64 0], .int .u64 0], []⟩ 8 (by kernel_rfl) (by kernel_rfl) (by kernel_rfl) (by kernel_rfl)) ?_
  intro W base args ds gs before hval0 hW hcnd _
  have hval : ∀ (j : Nat) t v, Try.f3.params[j]? = some t → args[j]? = some v → Value.okWide Try.prog W .any base t v := hval0
  have hW' := hW
  obtain ⟨p, q, hA0, hV, rfl, hfz, hnd⟩ := hW
  have hA : DataW.TrodAll enc Try.prog W 0 (fun _ => true) true Try.f3.params.toList args.toList ds p := hA0
  rw [Try.params3] at hA hval
  obtain ⟨v0, vs0, d0, ds0, p0, q0, hargs, rfl, rfl, h0, r0⟩ := trodAll_cons hA
  obtain ⟨v1, vs1, d1, ds1, p1, q1, rfl, rfl, rfl, h1, r1⟩ := trodAll_cons r0
  obtain ⟨v2, vs2, d2, ds2, p2, q2, rfl, rfl, rfl, h2, r2⟩ := trodAll_cons r1
  obtain ⟨rfl, rfl, rfl⟩ := trodAll_nil r2
  obtain rfl : args = #[v0, v1, v2] := by cases args; simp_all
  obtain ⟨rfl, rfl⟩ := trodVars_none hV
  obtain ⟨a0, rfl, rfl, rfl, wf0⟩ := open_int Try.underlying22 (hval 0 22 v0 rfl rfl) h0
  have b0 := bounds_u64 wf0
  have k1 := h1
  have lt1 : ∀ x ∈ p1, x.block < W.heap.size := by obtain ⟨m, hm⟩ := k1; exact DataW.trod_lt m _ _ _ hm
  obtain ⟨a1_0, a1_1, rfl, wf1_0, wf1_1⟩ := open_arr2 Try.underlying23 Try.underlying22 (by kernel_rfl) (by kernel_rfl) (hval 1 23 v1 rfl rfl) h1
  have b1_0 := bounds_u64 wf1_0
  have b1_1 := bounds_u64 wf1_1
  obtain ⟨a2, rfl, rfl, rfl, wf2⟩ := open_int Try.underlying22 (hval 2 22 v2 rfl rfl) h2
  have b2 := bounds_u64 wf2
  clear hA0 hval0
  refine (WakeTells_walk a0 b0 a1_0 b1_0 a1_1 b1_1 a2 b2 W).mono fun e W' ⟨he, bel⟩ => ?_
  subst he
  exact ⟨_, rfl, _, _, _, [], _, [], hW', trodAll_mk1 (shut_bool Try.underlying4 _), (trodAll_cons_mk (shut_int Try.underlying22 wf0) (trodAll_cons_mk (Below.trod laidOut (by kernel_rfl) (of_decide_eq_true (by kernel_rfl)) k1 bel lt1) (trodAll_cons_mk (shut_int Try.underlying22 wf2) trodAll_mk0))), rfl, bel.frame _, fun h => by cases h⟩
theorem over : Rows.wakeTellsRow.holds Try.pinned (OpenSpec.ofChange Rows.wakeTellsSpec) :=
  OpenClaim.holds_of_wide 3 Try.f3 rfl rfl rfl rfl rfl rfl rfl ⟨rfl, rfl, rfl, rfl, rfl⟩ rfl rfl rfl rfl rfl (by kernel_rfl) Try.func3 (by kernel_rfl)
    (of_decide_eq_true (by kernel_rfl)) (by unfold Func.isWrapper; first | (rw [if_pos (by decide +kernel)]; kernel_rfl) | (rw [if_neg (by decide +kernel)]; exact ⟨rfl, rfl⟩))
    (fun os started H enc _ => lifted os started H enc)
end wakeTellsDone
theorem WakeTells_holds : Rows.WakeTellsSaid := wakeTellsDone.over

end Go.Proofs.Ytapikbgloagnkaa
