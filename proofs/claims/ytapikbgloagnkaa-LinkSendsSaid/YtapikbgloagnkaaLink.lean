/-
  The walks of package link: a link's block turns by Send alone. Conditions: numbers in range.
-/
import Derived.Test.YtapikbgloagnkaaPackO
import Derived.Deep.RegionHeld3
import Derived.Deep.QuietTactic
import Derived.BigQuiet
namespace Go.Proofs.Ytapikbgloagnkaa
open Go.RowKit
set_option linter.unusedVariables false

/-- All blocks but one are as they were. -/
def KeptBut (L : Nat) (w w' : World) : Prop := Below L w w' ∧ ∀ B, B < w.heap.size → B ≠ L → w'.heap[B]? = w.heap[B]?
theorem KeptBut.of_below {L : Nat} {w w' : World} (h : Below w.heap.size w w') (hL : L ≤ w.heap.size) : KeptBut L w w' := ⟨h.mono hL, fun B hB _ => h.block B hB⟩
theorem KeptBut.trans {L : Nat} {a b c : World} (h : KeptBut L a b) (k : KeptBut L b c) : KeptBut L a c :=
  ⟨h.1.trans k.1, fun B hB hne => (k.2 B (Nat.lt_of_lt_of_le hB h.1.size) hne).trans (h.2 B hB hne)⟩
theorem KeptBut.setCell {L : Nat} {a w : World} (h : KeptBut L a w) (i : Nat) (v : Value) : KeptBut L a (w.setCell ⟨L, i, none⟩ v) :=
  ⟨h.1.setCell (Nat.le_refl _) _, fun B hB hne => by rw [Below.heap_setCell _ _ _ _ hne]; exact h.2 B hB hne⟩
theorem KeptBut.drew {L : Nat} {a w : World} (h : KeptBut L a w) : KeptBut L a w.drew := ⟨h.1.drew, h.2⟩
theorem KeptBut.drewN {L : Nat} {a w : World} (h : KeptBut L a w) (n : Nat) : KeptBut L a (w.drewN n) := ⟨below_drewN h.1 n, h.2⟩
theorem Blk.kept {w w' : World} {L B : Nat} {cs : Array Value} {t : TypeId} (h : Blk w B cs t) (hk : KeptBut L w w') (hne : B ≠ L) : Blk w' B cs t := by
  have hs := h.size
  unfold Blk at *; rw [hk.2 B hs hne]; exact h

theorem lNew (t : Int) (w : World) (ht : 1 ≤ t ∧ t ≤ 65536) :
    Calls Try.prog 35 #[.int .i64 t] w fun e w' => e = .returned (.tuple #[.pointer (some ⟨w.heap.size, 0, none⟩), .int .i64 0]) ∧ Below w.heap.size w w' ∧ Blk w' w.heap.size #[.int .u64 (0), .int .u64 (0), .int .u64 (0), .int .i64 (t), .int .u64 (0)] 94 := by
  have d1 : decide (t < 1) = false := decide_eq_false (by omega)
  have d2 : decide (65536 < t) = false := decide_eq_false (by omega)
  go_enter Try.func35, Try.ntmps35
  go_wp2
  go_returns
  exact ⟨rfl, by (repeat' (first | (with_reducible exact Below.refl _ _) | (with_reducible assumption) | (with_reducible refine below_drewN ?_ _) | (with_reducible refine Below.drew ?_) | (with_reducible refine Below.alloc ?_ ?_ _) | (with_reducible refine Below.setCell ?_ ?_ _) | go_size)), by (repeat' (first | (with_reducible assumption) | (with_reducible exact Blk.alloc_new _ _ _ (by first | rfl | (simp; done) | omega)) | (with_reducible refine Blk.drewN ?_ _) | (with_reducible refine Blk.drew ?_) | (with_reducible refine Blk.alloc_old ?_ _) | (with_reducible apply Blk.set_same) | (with_reducible refine Blk.set_other ?_ (by first | omega | (simp; done) | (simp; omega)) _) | (exact rfl)))⟩
theorem lNew_lt (t : Int) (w : World) (ht : t < 1) :
    Calls Try.prog 35 #[.int .i64 t] w fun e w' => e = .returned (.tuple #[.pointer none, .int .i64 1]) ∧ w = w' := by
  have d1 : decide (t < 1) = true := decide_eq_true ht
  go_enter Try.func35, Try.ntmps35
  go_wp2
  go_returns
  exact ⟨rfl, rfl⟩
theorem lNew_gt (t : Int) (w : World) (ht : 65536 < t) :
    Calls Try.prog 35 #[.int .i64 t] w fun e w' => e = .returned (.tuple #[.pointer none, .int .i64 1]) ∧ w = w' := by
  have d1 : decide (t < 1) = false := decide_eq_false (by omega)
  have d2 : decide (65536 < t) = true := decide_eq_true ht
  go_enter Try.func35, Try.ntmps35
  go_wp2
  go_returns
  exact ⟨rfl, rfl⟩
section
variable (L : Nat) (p b k t u : Int) (w : World) (hL : Blk w L #[.int .u64 (p), .int .u64 (b), .int .u64 (k), .int .i64 (t), .int .u64 (u)] 94)
include hL
theorem lFree (now : Int) (c : Bool) (hc : decide (u ≤ now) = c) :
    Calls Try.prog 44 #[(.pointer (some ⟨L, 0, none⟩)), .int .u64 now] w fun e w' => e = .returned (.bool c) ∧ w = w' := by
  have cL := hL.cell; have zL := hL.size
  go_enter Try.func44, Try.ntmps44
  go_wp2
  go_ret
  exact ⟨rfl, rfl⟩
theorem lUntil :
    Calls Try.prog 43 #[(.pointer (some ⟨L, 0, none⟩))] w fun e w' => e = .returned (.int .u64 u) ∧ w = w' := by
  have cL := hL.cell; have zL := hL.size
  go_enter Try.func43, Try.ntmps43
  go_wp2
  go_ret
  exact ⟨rfl, rfl⟩
theorem lBusy :
    Calls Try.prog 42 #[(.pointer (some ⟨L, 0, none⟩))] w fun e w' => e = .returned (.int .u64 k) ∧ w = w' := by
  have cL := hL.cell; have zL := hL.size
  go_enter Try.func42, Try.ntmps42
  go_wp2
  go_ret
  exact ⟨rfl, rfl⟩
theorem lSent :
    Calls Try.prog 40 #[(.pointer (some ⟨L, 0, none⟩))] w fun e w' => e = .returned (.tuple #[.int .u64 p, .int .u64 b]) ∧ Below w.heap.size w w' := by
  have cL := hL.cell; have zL := hL.size
  go_enter Try.func40, Try.ntmps40
  go_wp2
  go_quiet (fail)
  go_wp2
  go_returns
  exact ⟨rfl, by (repeat' (first | (with_reducible exact Below.refl _ _) | (with_reducible assumption) | (with_reducible refine below_drewN ?_ _) | (with_reducible refine Below.drew ?_) | (with_reducible refine Below.alloc ?_ ?_ _) | (with_reducible refine Below.setCell ?_ ?_ _) | go_size))⟩
theorem lAdd (n y : Int) (hn : 0 ≤ n ∧ n ≤ 16384) (hy : 0 ≤ y) (h1 : 0 ≤ p ∧ p + 1 ≤ 18446744073709551615) (h2 : 0 ≤ b ∧ b + n ≤ 18446744073709551615) (h3 : 0 ≤ k ∧ k + y ≤ 18446744073709551615) :
    Calls Try.prog 56 #[(.pointer (some ⟨L, 0, none⟩)), .int .i64 n, .int .u64 y] w fun e w' => e = .returned (.tuple #[]) ∧ Blk w' L #[.int .u64 (p + 1), .int .u64 (b + n), .int .u64 (k + y), .int .i64 (t), .int .u64 (u)] 94 ∧ KeptBut L w w' := by
  have cL := hL.cell; have zL := hL.size; have fL := hL.frozen
  go_enter Try.func56, Try.ntmps56
  go_wp2
  go_end0
  exact ⟨rfl, by (repeat' (first | (with_reducible assumption) | (with_reducible exact Blk.alloc_new _ _ _ (by first | rfl | (simp; done) | omega)) | (with_reducible refine Blk.drewN ?_ _) | (with_reducible refine Blk.drew ?_) | (with_reducible refine Blk.alloc_old ?_ _) | (with_reducible apply Blk.set_same) | (with_reducible refine Blk.set_other ?_ (by first | omega | (simp; done) | (simp; omega)) _) | (exact rfl))), (((KeptBut.of_below (Below.refl _ _) (by omega)).setCell _ _).setCell _ _).setCell _ _⟩
end
theorem lSend_nil (id len h0 h1 h2 h3 now : Int) (w : World) :
    Calls Try.prog 37 #[.pointer none, .int .u64 now, pkt id len h0 h1 h2 h3] w fun e w' => e = .returned (.tuple #[.int .u64 0, .int .i64 7]) ∧ Below w.heap.size w w' := by
  go_enter Try.func37, Try.ntmps37
  go_wp2
  go_returns
  exact ⟨rfl, by (repeat' (first | (with_reducible exact Below.refl _ _) | (with_reducible assumption) | (with_reducible refine below_drewN ?_ _) | (with_reducible refine Below.drew ?_) | (with_reducible refine Below.alloc ?_ ?_ _) | (with_reducible refine Below.setCell ?_ ?_ _) | go_size))⟩
section
variable (id len h0 h1 h2 h3 now : Int) (L : Nat) (p b k t u : Int) (w : World) (hL : Blk w L #[.int .u64 (p), .int .u64 (b), .int .u64 (k), .int .i64 (t), .int .u64 (u)] 94)
include hL
theorem lSend_clock (hn : 4611686018427387904 < now) :
    Calls Try.prog 37 #[(.pointer (some ⟨L, 0, none⟩)), .int .u64 now, pkt id len h0 h1 h2 h3] w fun e w' => e = .returned (.tuple #[.int .u64 0, .int .i64 27]) ∧ Below w.heap.size w w' := by
  have cL := hL.cell; have zL := hL.size
  have d1 : decide (4611686018427387904 < now) = true := decide_eq_true hn
  go_enter Try.func37, Try.ntmps37
  go_wp2
  go_returns
  exact ⟨rfl, by (repeat' (first | (with_reducible exact Below.refl _ _) | (with_reducible assumption) | (with_reducible refine below_drewN ?_ _) | (with_reducible refine Below.drew ?_) | (with_reducible refine Below.alloc ?_ ?_ _) | (with_reducible refine Below.setCell ?_ ?_ _) | go_size))⟩
theorem lSend_len (hn : now ≤ 4611686018427387904) (hl : ¬ (1 ≤ len ∧ len ≤ 16384)) :
    Calls Try.prog 37 #[(.pointer (some ⟨L, 0, none⟩)), .int .u64 now, pkt id len h0 h1 h2 h3] w fun e w' => e = .returned (.tuple #[.int .u64 0, .int .i64 26]) ∧ Below w.heap.size w w' := by
  have cL := hL.cell; have zL := hL.size; have fL := hL.frozen
  have d1 : decide (4611686018427387904 < now) = false := decide_eq_false (by omega)
  go_enter Try.func37, Try.ntmps37
  go_wp2_with fail
  refine (may_any id len h0 h1 h2 h3 16384 _ 26 (by rw [if_pos (by omega), if_neg hl])).mono ?_
  rintro e w1 ⟨rfl, hb1⟩
  have L1 : Blk w1 (L) #[.int .u64 (p), .int .u64 (b), .int .u64 (k), .int .i64 (t), .int .u64 (u)] 94 := Blk.below (by (repeat' (first | (with_reducible assumption) | (with_reducible exact Blk.alloc_new _ _ _ (by first | rfl | (simp; done) | omega)) | (with_reducible refine Blk.drewN ?_ _) | (with_reducible refine Blk.drew ?_) | (with_reducible refine Blk.alloc_old ?_ _) | (with_reducible apply Blk.set_same) | (with_reducible refine Blk.set_other ?_ (by first | omega | (simp; done) | (simp; omega)) _) | (exact rfl)))) hb1 (by first | (simp; done) | omega | (simp; omega))
  have g1 : Below w.heap.size w w1 := by refine Below.trans ?_ (hb1.mono ?_) <;> (repeat' (first | (with_reducible exact Below.refl _ _) | (with_reducible assumption) | (with_reducible refine below_drewN ?_ _) | (with_reducible refine Below.drew ?_) | (with_reducible refine Below.alloc ?_ ?_ _) | (with_reducible refine Below.setCell ?_ ?_ _) | go_size))
  have hz1 := hb1.size
  (try simp at hz1)
  clear hb1
  replace cL := L1.cell
  replace fL := L1.frozen
  replace zL := L1.size
  go_wp2
  go_returns
  exact ⟨rfl, by (repeat' (first | (with_reducible exact Below.refl _ _) | (with_reducible assumption) | (with_reducible refine below_drewN ?_ _) | (with_reducible refine Below.drew ?_) | (with_reducible refine Below.alloc ?_ ?_ _) | (with_reducible refine Below.setCell ?_ ?_ _) | go_size))⟩
theorem lSend_busy (hn : now ≤ 4611686018427387904) (hl : 1 ≤ len ∧ len ≤ 16384) (hu : now < u) :
    Calls Try.prog 37 #[(.pointer (some ⟨L, 0, none⟩)), .int .u64 now, pkt id len h0 h1 h2 h3] w fun e w' => e = .returned (.tuple #[.int .u64 0, .int .i64 24]) ∧ Below w.heap.size w w' := by
  have cL := hL.cell; have zL := hL.size; have fL := hL.frozen
  have d1 : decide (4611686018427387904 < now) = false := decide_eq_false (by omega)
  go_enter Try.func37, Try.ntmps37
  go_wp2_with fail
  refine (may_any id len h0 h1 h2 h3 16384 _ 0 (by rw [if_pos (by omega), if_pos hl])).mono ?_
  rintro e w1 ⟨rfl, hb1⟩
  have L1 : Blk w1 (L) #[.int .u64 (p), .int .u64 (b), .int .u64 (k), .int .i64 (t), .int .u64 (u)] 94 := Blk.below (by (repeat' (first | (with_reducible assumption) | (with_reducible exact Blk.alloc_new _ _ _ (by first | rfl | (simp; done) | omega)) | (with_reducible refine Blk.drewN ?_ _) | (with_reducible refine Blk.drew ?_) | (with_reducible refine Blk.alloc_old ?_ _) | (with_reducible apply Blk.set_same) | (with_reducible refine Blk.set_other ?_ (by first | omega | (simp; done) | (simp; omega)) _) | (exact rfl)))) hb1 (by first | (simp; done) | omega | (simp; omega))
  have g1 : Below w.heap.size w w1 := by refine Below.trans ?_ (hb1.mono ?_) <;> (repeat' (first | (with_reducible exact Below.refl _ _) | (with_reducible assumption) | (with_reducible refine below_drewN ?_ _) | (with_reducible refine Below.drew ?_) | (with_reducible refine Below.alloc ?_ ?_ _) | (with_reducible refine Below.setCell ?_ ?_ _) | go_size))
  have hz1 := hb1.size
  (try simp at hz1)
  clear hb1
  replace cL := L1.cell
  replace fL := L1.frozen
  replace zL := L1.size
  go_wp2_with fail
  refine (lFree L p b k t u _ L1 now false (decide_eq_false (by omega))).mono ?_
  rintro e u2 ⟨rfl, rfl⟩
  go_wp2
  go_returns
  exact ⟨rfl, by (repeat' (first | (with_reducible exact Below.refl _ _) | (with_reducible assumption) | (with_reducible refine below_drewN ?_ _) | (with_reducible refine Below.drew ?_) | (with_reducible refine Below.alloc ?_ ?_ _) | (with_reducible refine Below.setCell ?_ ?_ _) | go_size))⟩
set_option maxHeartbeats 1000000 in
theorem lSend_ok (hn : 0 ≤ now ∧ now ≤ 4611686018427387904) (hl : 1 ≤ len ∧ len ≤ 16384) (hu : u ≤ now) (ht : 1 ≤ t ∧ t ≤ 65536) (g1 : 0 ≤ p ∧ p + 1 ≤ 18446744073709551615) (g2 : 0 ≤ b ∧ b + len ≤ 18446744073709551615) (y : Int) (hy : len * t = y) (g3 : 0 ≤ k ∧ k + y ≤ 18446744073709551615) :
    Calls Try.prog 37 #[(.pointer (some ⟨L, 0, none⟩)), .int .u64 now, pkt id len h0 h1 h2 h3] w fun e w' => e = .returned (.tuple #[.int .u64 (now + y), .int .i64 0]) ∧ Blk w' L #[.int .u64 (p + 1), .int .u64 (b + len), .int .u64 (k + y), .int .i64 (t), .int .u64 (now + y)] 94 ∧ KeptBut L w w' := by
  have cL := hL.cell; have zL := hL.size; have fL := hL.frozen
  have d1 : decide (4611686018427387904 < now) = false := decide_eq_false (by omega)
  have hp : 0 ≤ len * t ∧ len * t ≤ 1073741824 := by
    refine ⟨Int.mul_nonneg (by omega) (by omega), ?_⟩
    have := Int.mul_le_mul hl.2 ht.2 (by omega) (by omega : (0 : Int) ≤ 16384)
    omega
  rw [hy] at hp
  have hLw := hL.size
  have Hy := hide hy; clear hy
  have ctk : ∀ v, Calls Try.prog 32 #[pkt id len h0 h1 h2 h3, .int .i64 t] v fun e w' => e = .returned (.tuple #[.int .u64 y, .int .i64 0]) ∧ Below v.heap.size v w' := fun v => by have := ticks_ok id len h0 h1 h2 h3 t v ht hl; rw [Hy.out] at this; exact this
  have Htk := hide ctk; clear ctk
  go_enter Try.func37, Try.ntmps37
  go_wp2_with fail
  refine (may_any id len h0 h1 h2 h3 16384 _ 0 (by rw [if_pos (by omega), if_pos hl])).mono ?_
  rintro e w1 ⟨rfl, hb1⟩
  have L1 : Blk w1 (L) #[.int .u64 (p), .int .u64 (b), .int .u64 (k), .int .i64 (t), .int .u64 (u)] 94 := Blk.below (by (repeat' (first | (with_reducible assumption) | (with_reducible exact Blk.alloc_new _ _ _ (by first | rfl | (simp; done) | omega)) | (with_reducible refine Blk.drewN ?_ _) | (with_reducible refine Blk.drew ?_) | (with_reducible refine Blk.alloc_old ?_ _) | (with_reducible apply Blk.set_same) | (with_reducible refine Blk.set_other ?_ (by first | omega | (simp; done) | (simp; omega)) _) | (exact rfl)))) hb1 (by first | (simp; done) | omega | (simp; omega))
  have A1 : Blk w1 (w.heap.size) #[.int .u64 id, .int .i64 len, .int .u16 h0, .int .u16 h1, .int .u16 h2, .int .u16 h3] 42 := Blk.below (by (repeat' (first | (with_reducible assumption) | (with_reducible exact Blk.alloc_new _ _ _ (by first | rfl | (simp; done) | omega)) | (with_reducible refine Blk.drewN ?_ _) | (with_reducible refine Blk.drew ?_) | (with_reducible refine Blk.alloc_old ?_ _) | (with_reducible apply Blk.set_same) | (with_reducible refine Blk.set_other ?_ (by first | omega | (simp; done) | (simp; omega)) _) | (exact rfl)))) hb1 (by first | (simp; done) | omega | (simp; omega))
  have g1 : Below w.heap.size w w1 := by refine Below.trans ?_ (hb1.mono ?_) <;> (repeat' (first | (with_reducible exact Below.refl _ _) | (with_reducible assumption) | (with_reducible refine below_drewN ?_ _) | (with_reducible refine Below.drew ?_) | (with_reducible refine Below.alloc ?_ ?_ _) | (with_reducible refine Below.setCell ?_ ?_ _) | go_size))
  have hz1 := hb1.size
  (try simp at hz1)
  clear hb1
  replace cL := L1.cell
  replace fL := L1.frozen
  replace zL := L1.size
  replace cA := A1.cell
  replace fA := A1.frozen
  replace zA := A1.size
  go_wp2_with fail
  refine (lFree L p b k t u _ L1 now true (decide_eq_true hu)).mono ?_
  rintro e u2 ⟨rfl, rfl⟩
  go_wp2_with fail
  go_region_held3 (fun v => (∀ i, v.cell? ⟨L, i, none⟩ = #[.int .u64 (p), .int .u64 (b), .int .u64 (k), .int .i64 (t), .int .u64 (u)][i]?) ∧ L < v.heap.size ∧ Blk v (L) #[.int .u64 (p), .int .u64 (b), .int .u64 (k), .int .i64 (t), .int .u64 (u)] 94 ∧ (∀ i, v.cell? ⟨w.heap.size, i, none⟩ = #[.int .u64 id, .int .i64 len, .int .u16 h0, .int .u16 h1, .int .u16 h2, .int .u16 h3][i]?) ∧ w.heap.size < v.heap.size ∧ Blk v (w.heap.size) #[.int .u64 id, .int .i64 len, .int .u16 h0, .int .u16 h1, .int .u16 h2, .int .u16 h3] 42 ∧ Below w.heap.size w v)
    (first
      | (refine ⟨?_, ?_, ?_, ?_, ?_, ?_, ?_⟩ <;> first | (with_reducible assumption) | ((repeat' (first | (with_reducible assumption) | (with_reducible exact Blk.alloc_new _ _ _ (by first | rfl | (simp; done) | omega)) | (with_reducible refine Blk.drewN ?_ _) | (with_reducible refine Blk.drew ?_) | (with_reducible refine Blk.alloc_old ?_ _) | (with_reducible apply Blk.set_same) | (with_reducible refine Blk.set_other ?_ (by first | omega | (simp; done) | (simp; omega)) _) | (exact rfl))); done) | ((repeat' (first | (with_reducible exact Below.refl _ _) | (with_reducible assumption) | (with_reducible refine below_drewN ?_ _) | (with_reducible refine Below.drew ?_) | (with_reducible refine Below.alloc ?_ ?_ _) | (with_reducible refine Below.setCell ?_ ?_ _) | go_size)); done) | omega | (go_simp; done) | (simp; done) | (exact Blk.cell (by (repeat' (first | (with_reducible assumption) | (with_reducible exact Blk.alloc_new _ _ _ (by first | rfl | (simp; done) | omega)) | (with_reducible refine Blk.drewN ?_ _) | (with_reducible refine Blk.drew ?_) | (with_reducible refine Blk.alloc_old ?_ _) | (with_reducible apply Blk.set_same) | (with_reducible refine Blk.set_other ?_ (by first | omega | (simp; done) | (simp; omega)) _) | (exact rfl)))))))
    (first
      | (go_at_call 32; (with_reducible refine (Htk.out _).mono ?_); rintro e w' ⟨rfl, hb'⟩; have hbx : Below w.heap.size w w' := (by refine Below.trans ?_ (Below.mono hb' ?_) <;> (repeat' (first | (with_reducible exact Below.refl _ _) | (with_reducible assumption) | (with_reducible refine below_drewN ?_ _) | (with_reducible refine Below.drew ?_) | (with_reducible refine Below.alloc ?_ ?_ _) | (with_reducible refine Below.setCell ?_ ?_ _) | go_size))); have hbs := hb'.size; (try simp at hbs); have hkL : Blk w' (L) #[.int .u64 (p), .int .u64 (b), .int .u64 (k), .int .i64 (t), .int .u64 (u)] 94 := Blk.below (by (repeat' (first | (with_reducible assumption) | (with_reducible exact Blk.alloc_new _ _ _ (by first | rfl | (simp; done) | omega)) | (with_reducible refine Blk.drewN ?_ _) | (with_reducible refine Blk.drew ?_) | (with_reducible refine Blk.alloc_old ?_ _) | (with_reducible apply Blk.set_same) | (with_reducible refine Blk.set_other ?_ (by first | omega | (simp; done) | (simp; omega)) _) | (exact rfl)))) hb' (by first | (simp; done) | omega | (simp; omega)); have hqL := hkL.cell; have hzL := hkL.size; have hkA : Blk w' (w.heap.size) #[.int .u64 id, .int .i64 len, .int .u16 h0, .int .u16 h1, .int .u16 h2, .int .u16 h3] 42 := Blk.below (by (repeat' (first | (with_reducible assumption) | (with_reducible exact Blk.alloc_new _ _ _ (by first | rfl | (simp; done) | omega)) | (with_reducible refine Blk.drewN ?_ _) | (with_reducible refine Blk.drew ?_) | (with_reducible refine Blk.alloc_old ?_ _) | (with_reducible apply Blk.set_same) | (with_reducible refine Blk.set_other ?_ (by first | omega | (simp; done) | (simp; omega)) _) | (exact rfl)))) hb' (by first | (simp; done) | omega | (simp; omega)); have hqA := hkA.cell; have hzA := hkA.size; clear hb'))
  all_goals
    have fL2 := hkL.frozen
    go_wp2_with fail
    refine wp_forget (fun v => KeptBut L w v ∧ Blk v L #[.int .u64 (p), .int .u64 (b), .int .u64 (k), .int .i64 (t), .int .u64 (now + y)] 94 ∧ Blk v w.heap.size #[.int .u64 id, .int .i64 len, .int .u16 h0, .int .u16 h1, .int .u16 h2, .int .u16 h3] 42) ⟨(KeptBut.of_below hbx (by omega)).setCell _ _, by (repeat' (first | (with_reducible assumption) | (with_reducible exact Blk.alloc_new _ _ _ (by first | rfl | (simp; done) | omega)) | (with_reducible refine Blk.drewN ?_ _) | (with_reducible refine Blk.drew ?_) | (with_reducible refine Blk.alloc_old ?_ _) | (with_reducible apply Blk.set_same) | (with_reducible refine Blk.set_other ?_ (by first | omega | (simp; done) | (simp; omega)) _) | (exact rfl))), by (repeat' (first | (with_reducible assumption) | (with_reducible exact Blk.alloc_new _ _ _ (by first | rfl | (simp; done) | omega)) | (with_reducible refine Blk.drewN ?_ _) | (with_reducible refine Blk.drew ?_) | (with_reducible refine Blk.alloc_old ?_ _) | (with_reducible apply Blk.set_same) | (with_reducible refine Blk.set_other ?_ (by first | omega | (simp; done) | (simp; omega)) _) | (exact rfl)))⟩ ?_
    clear cL fL zL cA fA zA hqL hqA fL2 hkL hkA hzL hzA hbx L1 A1 g1
    rintro v ⟨K2, L2, A2⟩
    have cL := L2.cell; have cA := A2.cell; have zL := L2.size; have zA := A2.size
    go_region_with (first | (go_at_call 56; (with_reducible refine (lAdd L p b k t (now + y) _ (by (repeat' (first | (with_reducible assumption) | (with_reducible exact Blk.alloc_new _ _ _ (by first | rfl | (simp; done) | omega)) | (with_reducible refine Blk.drewN ?_ _) | (with_reducible refine Blk.drew ?_) | (with_reducible refine Blk.alloc_old ?_ _) | (with_reducible apply Blk.set_same) | (with_reducible refine Blk.set_other ?_ (by first | omega | (simp; done) | (simp; omega)) _) | (exact rfl)))) len y (by omega) (by omega) (by omega) g2 g3).mono ?_); rintro e w3 ⟨rfl, L3, K3⟩; have cL3 := L3.cell; have zL3 := L3.size))
    all_goals
      go_wp2
      go_returns
      exact ⟨rfl, L3, by first | exact K2.trans K3 | exact K2.drew.trans K3 | exact (K2.drewN _).trans K3⟩
end
end Go.Proofs.Ytapikbgloagnkaa
