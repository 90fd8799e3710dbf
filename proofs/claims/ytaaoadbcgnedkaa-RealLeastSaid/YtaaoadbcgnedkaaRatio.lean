/-
  The walks of package ratio, of its reference, and of the closed example 'third'. Conditions: numbers of 128 bits, of 64 bits.
-/
import Derived.Test.YtaaoadbcgnedkaaQuo
import Derived.Test.YtaaoadbcgnedkaaDiv
import Derived.Deep.RegionHeld3
namespace Go.Proofs.Ytaaoadbcgnedkaa
open Go.RowKit
set_option linter.unusedVariables false
set_option linter.unusedSimpArgs false

/-- Rounded down: a number and an error. -/
def FlR (n d v e : Int) : Prop := (d = 0 ∧ v = 0 ∧ e = 1) ∨ (1 ≤ d ∧ hi (n / d) ≠ 0 ∧ v = 0 ∧ e = 20) ∨ (1 ≤ d ∧ hi (n / d) = 0 ∧ v = lo (n / d) ∧ e = 0)
def up (n d : Int) : Int := if n % d = 0 then n / d else n / d + 1
/-- Rounded up. -/
def CeR (n d v e : Int) : Prop := (d = 0 ∧ v = 0 ∧ e = 1) ∨ (1 ≤ d ∧ hi (up n d) ≠ 0 ∧ v = 0 ∧ e = 20) ∨ (1 ≤ d ∧ hi (up n d) = 0 ∧ v = lo (up n d) ∧ e = 0)
theorem FlR.ex (n d : Int) (hd : 0 ≤ d) : ∃ v e, FlR n d v e := by
  by_cases h : d = 0
  · exact ⟨0, 1, .inl ⟨h, rfl, rfl⟩⟩
  · by_cases h2 : hi (n / d) = 0
    · exact ⟨lo (n / d), 0, .inr (.inr ⟨by omega, h2, rfl, rfl⟩)⟩
    · exact ⟨0, 20, .inr (.inl ⟨by omega, h2, rfl, rfl⟩)⟩
theorem CeR.ex (n d : Int) (hd : 0 ≤ d) : ∃ v e, CeR n d v e := by
  by_cases h : d = 0
  · exact ⟨0, 1, .inl ⟨h, rfl, rfl⟩⟩
  · by_cases h2 : hi (up n d) = 0
    · exact ⟨lo (up n d), 0, .inr (.inr ⟨by omega, h2, rfl, rfl⟩)⟩
    · exact ⟨0, 20, .inr (.inl ⟨by omega, h2, rfl, rfl⟩)⟩
theorem div128 {n d : Int} (hn : In128 n) (hd : 1 ≤ d) : In128 (n / d) ∧ 0 ≤ n % d ∧ n % d < d := by
  have h1 := Int.ediv_le_self d hn.1
  have h2 := Int.ediv_nonneg hn.1 (show 0 ≤ d by omega)
  exact ⟨⟨h2, by have := hn.2; omega⟩, Int.emod_nonneg n (by omega), Int.emod_lt_of_pos n (by omega)⟩
theorem up128 {n d : Int} (hn : In128 n) (hd : 1 ≤ d) : In128 (n / d + 1) ∨ n % d = 0 := by
  by_cases h : n % d = 0
  · exact .inr h
  · left
    have hd2 : 2 ≤ d := by
      rcases Int.lt_or_le d 2 with h2 | h2
      · have : d = 1 := by omega
        subst this; omega
      · exact h2
    have h0 := Int.ediv_nonneg hn.1 (show 0 ≤ d by omega)
    have h1 : n / d * 2 ≤ n := Int.le_trans (Int.mul_le_mul_of_nonneg_left hd2 h0) (Int.ediv_mul_le n (by omega))
    unfold In128 at *; omega
theorem wDivC (a b q r : Int) (w : World) (ha : In128 a) (hb : 1 ≤ b) (hb' : b ≤ 18446744073709551615) (hq : a / b = q) (hr : a % b = r) :
    Calls Try.prog 70 #[wv a, .int .u64 b] w fun e w' => e = .returned (.tuple #[wv q, .int .u64 r, .int .i64 0]) ∧ Below w.heap.size w w' := by subst hq hr; exact wDiv a b w ha hb hb'
theorem rQuoC (a b q r : Int) (w : World) (ha : In128 a) (hb : 1 ≤ b) (hb' : b ≤ 18446744073709551615) (hq : a / b = q) (hr : a % b = r) :
    Calls Try.prog 73 #[nv a, .int .u64 b] w fun e w' => e = .returned (.tuple #[nv q, .int .u64 r]) ∧ Below w.heap.size w w' := by subst hq hr; exact rQuotient a b w ha hb hb'
theorem wAddC {x y : Value} {a b c : Int} (hx : x = wv a) (hy : y = wv b) (hc : a + b = c) (w : World) (ha : In128 a) (hb : In128 b) (hcc : In128 c) :
    Calls Try.prog 20 #[x, y] w fun e w' => e = .returned (.tuple #[wv c, .bool false]) ∧ Below w.heap.size w w' := by
  subst hx hy hc
  have := wAdd a b w ha hb
  rw [m128_of hcc, decide_eq_false (by unfold In128 at hcc; omega)] at this; exact this
theorem wAdd1 (a c : Int) (w : World) (ha : In128 a) (hc : a + 1 = c) (hcc : In128 c) :
    Calls Try.prog 20 #[wv a, wv 1] w fun e w' => e = .returned (.tuple #[wv c, .bool false]) ∧ Below w.heap.size w w' := wAddC rfl rfl hc w ha (by unfold In128; omega) hcc
theorem narrow_ok (q : Int) (w : World) (h : hi q = 0) :
    Calls Try.prog 71 #[wv q] w fun e w' => e = .returned (.tuple #[.int .u64 (lo q), .int .i64 0]) ∧ Below w.heap.size w w' := by
  have b1 : (hi q != 0) = false := by simp [h]
  clear h
  go_enter Try.func71, Try.ntmps71
  go_wp2
  go_returns
  exact ⟨rfl, by (repeat' (first | (with_reducible (first | exact Below.refl _ _ | assumption | refine below_drewN ?_ _ | refine Below.drew ?_ | refine Below.alloc ?_ ?_ _ | refine Below.setCell ?_ ?_ _)) | go_size))⟩
theorem narrow_no (q : Int) (w : World) (h : hi q ≠ 0) :
    Calls Try.prog 71 #[wv q] w fun e w' => e = .returned (.tuple #[.int .u64 0, .int .i64 20]) ∧ Below w.heap.size w w' := by
  have b1 : (hi q != 0) = true := bne_iff_ne.2 h
  clear h
  go_enter Try.func71, Try.ntmps71
  go_wp2
  go_returns
  exact ⟨rfl, by (repeat' (first | (with_reducible (first | exact Below.refl _ _ | assumption | refine below_drewN ?_ _ | refine Below.drew ?_ | refine Below.alloc ?_ ?_ _ | refine Below.setCell ?_ ?_ _)) | go_size))⟩
theorem narrow_c (q v e : Int) (w : World) (h : (hi q ≠ 0 ∧ v = 0 ∧ e = 20) ∨ (hi q = 0 ∧ v = lo q ∧ e = 0)) :
    Calls Try.prog 71 #[wv q] w fun x w' => x = .returned (.tuple #[.int .u64 v, .int .i64 e]) ∧ Below w.heap.size w w' := by
  rcases h with ⟨h, rfl, rfl⟩ | ⟨h, rfl, rfl⟩
  · exact narrow_no q w h
  · exact narrow_ok q w h
theorem wDivZ (A : Int) (w : World) :
    Calls Try.prog 70 #[wv A, .int .u64 0] w fun e w' => e = .returned (.tuple #[.agg #[.int .u64 0, .int .u64 0], .int .u64 0, .int .i64 1]) ∧ Below w.heap.size w w' := by
  have := wDiv0 A w
  rw [show wv 0 = .agg #[.int .u64 0, .int .u64 0] from (wv_eq (by omega) (by omega) (by omega)).symm] at this; exact this
theorem ceil_c (n d v e : Int) (w : World) (hn : In128 n) (hd : 0 ≤ d ∧ d ≤ 18446744073709551615) (h : CeR n d v e) :
    Calls Try.prog 65 #[wv n, .int .u64 d] w fun x w' => x = .returned (.tuple #[.int .u64 v, .int .i64 e]) ∧ Below w.heap.size w w' := by
  by_cases h0 : d = 0
  · obtain ⟨rfl, rfl⟩ : v = 0 ∧ e = 1 := by rcases h with h | h | h <;> omega
    subst h0
    clear h
    go_enter Try.func65, Try.ntmps65
    go_wp2_with fail
    refine (wDivZ n _).mono ?_
    rintro e w1 ⟨rfl, hb1⟩
    have g1 : Below w.heap.size w w1 := by refine Below.trans ?_ (hb1.mono ?_) <;> (repeat' (first | (with_reducible (first | exact Below.refl _ _ | assumption | refine below_drewN ?_ _ | refine Below.drew ?_ | refine Below.alloc ?_ ?_ _ | refine Below.setCell ?_ ?_ _)) | go_size))
    have hz1 := hb1.size
    (try simp at hz1)
    clear hb1
    go_wp2
    go_returns
    exact ⟨rfl, by (repeat' (first | (with_reducible (first | exact Below.refl _ _ | assumption | refine below_drewN ?_ _ | refine Below.drew ?_ | refine Below.alloc ?_ ?_ _ | refine Below.setCell ?_ ?_ _)) | go_size))⟩
  · have hd1 : 1 ≤ d := by omega
    have hN : (hi (up n d) ≠ 0 ∧ v = 0 ∧ e = 20) ∨ (hi (up n d) = 0 ∧ v = lo (up n d) ∧ e = 0) := by
      rcases h with h | h | h
      · omega
      · exact .inl h.2
      · exact .inr h.2
    have h128 := (div128 hn hd1).1
    have hu := up128 hn hd1
    by_cases hz : n % d = 0
    · rw [show up n d = n / d by unfold up; rw [if_pos hz]] at hN
      obtain ⟨q, hq⟩ : ∃ q, n / d = q := ⟨_, rfl⟩
      rw [hq] at hN
      have Hq := hide hq; have Hr := hide hz; have HN := hide hN
      clear h h0 hq hz hN hu
      go_enter Try.func65, Try.ntmps65
      go_wp2_with fail
      refine (wDivC n d q 0 _ hn hd1 hd.2 Hq.out Hr.out).mono ?_
      rintro e w1 ⟨rfl, hb1⟩
      have g1 : Below w.heap.size w w1 := by refine Below.trans ?_ (hb1.mono ?_) <;> (repeat' (first | (with_reducible (first | exact Below.refl _ _ | assumption | refine below_drewN ?_ _ | refine Below.drew ?_ | refine Below.alloc ?_ ?_ _ | refine Below.setCell ?_ ?_ _)) | go_size))
      have hz1 := hb1.size
      (try simp at hz1)
      clear hb1
      go_wp2_with fail
      refine (narrow_c q v e _ HN.out).mono ?_
      rintro e w2 ⟨rfl, hb2⟩
      have g2 : Below w.heap.size w w2 := by refine Below.trans ?_ (hb2.mono ?_) <;> (repeat' (first | (with_reducible (first | exact Below.refl _ _ | assumption | refine below_drewN ?_ _ | refine Below.drew ?_ | refine Below.alloc ?_ ?_ _ | refine Below.setCell ?_ ?_ _)) | go_size))
      have hz2 := hb2.size
      (try simp at hz2)
      clear hb2
      go_wp2
      go_returns
      exact ⟨rfl, by (repeat' (first | (with_reducible (first | exact Below.refl _ _ | assumption | refine below_drewN ?_ _ | refine Below.drew ?_ | refine Below.alloc ?_ ?_ _ | refine Below.setCell ?_ ?_ _)) | go_size))⟩
    · rw [show up n d = n / d + 1 by unfold up; rw [if_neg hz]] at hN
      have hu' : In128 (n / d + 1) := by rcases hu with hu | hu; exact hu; exact absurd hu hz
      obtain ⟨q, hq⟩ : ∃ q, n / d = q := ⟨_, rfl⟩
      obtain ⟨r, hr⟩ : ∃ r, n % d = r := ⟨_, rfl⟩
      rw [hq] at hN hu' h128
      have rb : (r != 0) = true := by rw [← hr]; exact bne_iff_ne.2 hz
      obtain ⟨q1, hq1⟩ : ∃ q1, q + 1 = q1 := ⟨_, rfl⟩
      rw [hq1] at hN hu'
      have Hq := hide hq; have Hr := hide hr; have HN := hide hN; have Hq1 := hide hq1
      clear h h0 hq hr hz hN hu hq1
      go_enter Try.func65, Try.ntmps65
      go_wp2_with fail
      refine (wDivC n d q r _ hn hd1 hd.2 Hq.out Hr.out).mono ?_
      rintro e w1 ⟨rfl, hb1⟩
      have g1 : Below w.heap.size w w1 := by refine Below.trans ?_ (hb1.mono ?_) <;> (repeat' (first | (with_reducible (first | exact Below.refl _ _ | assumption | refine below_drewN ?_ _ | refine Below.drew ?_ | refine Below.alloc ?_ ?_ _ | refine Below.setCell ?_ ?_ _)) | go_size))
      have hz1 := hb1.size
      (try simp at hz1)
      clear hb1
      go_wp2_with fail
      go_region_with (first
          | (go_at_call 24; (with_reducible refine (wOf 1 _ (by omega) (by omega)).mono ?_); rintro e w' ⟨rfl, hb'⟩; have hbx : Below w.heap.size w w' := (by refine Below.trans ?_ (Below.mono hb' ?_) <;> (repeat' (first | (with_reducible (first | exact Below.refl _ _ | assumption | refine below_drewN ?_ _ | refine Below.drew ?_ | refine Below.alloc ?_ ?_ _ | refine Below.setCell ?_ ?_ _)) | go_size))); have hbs := hb'.size; (try simp at hbs); have hkQ : Blk w' (w1.heap.size) #[.int .u64 (hi (q)), .int .u64 (lo (q))] 26 := Blk.below (by (repeat' (first | (with_reducible (first | assumption | exact Blk.alloc_new _ _ _ (by first | rfl | (simp; done) | omega) | apply Blk.drewN | apply Blk.drew | apply Blk.alloc_old | apply Blk.set_same | apply Blk.set_other)) | (show (_ : Nat) ≠ _; first | omega | (simp; done) | (simp; omega)) | ((simp only [List.setIfInBounds_toArray, List.set_cons_succ, List.set_cons_zero]); (with_reducible exact rfl)) | (with_reducible exact rfl) | (show (_ : Array Value) = _; exact rfl)))) hb' (by first | (simp; done) | omega | (simp; omega)); have cQ := hkQ.cell; have fQ := hkQ.frozen; have zQ := hkQ.size; clear hb')
          | (go_at_call 20; (with_reducible refine (wAdd1 q q1 _ h128 Hq1.out hu').mono ?_); rintro e w' ⟨rfl, hb'⟩; have hbx : Below w.heap.size w w' := (by refine Below.trans ?_ (Below.mono hb' ?_) <;> (repeat' (first | (with_reducible (first | exact Below.refl _ _ | assumption | refine below_drewN ?_ _ | refine Below.drew ?_ | refine Below.alloc ?_ ?_ _ | refine Below.setCell ?_ ?_ _)) | go_size))); have hbs := hb'.size; (try simp at hbs); have hkQ : Blk w' (w1.heap.size) #[.int .u64 (hi (q)), .int .u64 (lo (q))] 26 := Blk.below (by (repeat' (first | (with_reducible (first | assumption | exact Blk.alloc_new _ _ _ (by first | rfl | (simp; done) | omega) | apply Blk.drewN | apply Blk.drew | apply Blk.alloc_old | apply Blk.set_same | apply Blk.set_other)) | (show (_ : Nat) ≠ _; first | omega | (simp; done) | (simp; omega)) | ((simp only [List.setIfInBounds_toArray, List.set_cons_succ, List.set_cons_zero]); (with_reducible exact rfl)) | (with_reducible exact rfl) | (show (_ : Array Value) = _; exact rfl)))) hb' (by first | (simp; done) | omega | (simp; omega)); have cQ := hkQ.cell; have fQ := hkQ.frozen; have zQ := hkQ.size; clear hb'))
      all_goals
        go_wp2_with fail
        refine (narrow_c q1 v e _ HN.out).mono ?_
        rintro e w4 ⟨rfl, hb4⟩
        have g4 : Below w.heap.size w w4 := by refine Below.trans ?_ (hb4.mono ?_) <;> (repeat' (first | (with_reducible (first | exact Below.refl _ _ | assumption | refine below_drewN ?_ _ | refine Below.drew ?_ | refine Below.alloc ?_ ?_ _ | refine Below.setCell ?_ ?_ _)) | go_size))
        have hz4 := hb4.size
        (try simp at hz4)
        clear hb4
        go_wp2
        go_returns
        exact ⟨rfl, by (repeat' (first | (with_reducible (first | exact Below.refl _ _ | assumption | refine below_drewN ?_ _ | refine Below.drew ?_ | refine Below.alloc ?_ ?_ _ | refine Below.setCell ?_ ?_ _)) | go_size))⟩
end Go.Proofs.Ytaaoadbcgnedkaa
