/-
  The walks of package wake, of its reference, and of the statements' own word 'nine'. Conditions: arguments of 64 bits.
-/
import Derived.Test.YtapikbgloagnkaaLeast
namespace Go.Proofs.Ytapikbgloagnkaa
open Go.RowKit
set_option linter.unusedVariables false

/-- The greatest of a number and others. -/
def grst (f : Int) (zs : List Int) : Int := zs.foldl max f
theorem grst_snoc (f : Int) (zs : List Int) (z : Int) : grst f (zs ++ [z]) = max (grst f zs) z := by unfold grst; simp
theorem less_any (x y : Int) (w : World) (b : Bool) (hb : decide (x < y) = b) :
    Calls Try.prog 57 #[.int .u64 x, .int .u64 y] w fun e w' => e = .returned (.bool b) ∧ w = w' := by
  subst hb
  have hx : (x != x) = false := by simp
  have hy : (y != y) = false := by simp
  have hx' : (x == x) = true := by simp
  have hy' : (y == y) = true := by simp
  go_enter Try.func57, Try.ntmps57
  go_wp2
  go_ret
  exact ⟨rfl, rfl⟩
theorem grst_rng {f : Int} {zs : List Int} (hf : 0 ≤ f ∧ f ≤ 18446744073709551615) (h : ∀ z ∈ zs, 0 ≤ z ∧ z ≤ 18446744073709551615) : 0 ≤ grst f zs ∧ grst f zs ≤ 18446744073709551615 := by
  unfold grst
  induction zs generalizing f with
  | nil => exact hf
  | cons z zs ih =>
    have hz := h z (by simp)
    exact ih (f := max f z) (by omega) (fun y hy => h y (by simp [hy]))
set_option maxHeartbeats 400000 in
theorem greatest_any (f : Int) (a : Option Addr) (len cap : Nat) (zs : List Int) (w : World) (hr : Row64 w a len zs) (hm : len ≤ 9223372036854775807) :
    Calls Try.prog 46 #[.int .u64 f, .slice a len cap] w fun e w' => e = .returned (.int .u64 (grst f zs)) ∧ w = w' := by
  obtain ⟨hlen, hr⟩ := hr
  have hl0 : grst f (zs.take 0) = f := rfl
  have hfin := hide (show zs.take len = zs from List.take_of_length_le (by omega))
  have hlen' := hide hlen; clear hlen
  have hr' := hide hr; clear hr
  have hl0' := hide hl0; clear hl0
  go_enter Try.func46, Try.ntmps46
  go_wp2
  go_loop [0, 9] (fun t i => ∃ k : Nat, k ≤ len ∧ i = .int .i64 k ∧ t = .int .u64 (grst f (zs.take k))) (fun _ i => len - (intOf i).toNat)
  case atStart => exact ⟨0, Nat.zero_le _, rfl, rfl⟩
  case round =>
    obtain ⟨k, hk, rfl, rfl⟩ := hrel
    by_cases hlt : k < len
    · have hs := take_snoc' zs k (by rw [hlen'.out]; exact hlt)
      have hmn := hide (show grst f (zs.take (k + 1)) = max (grst f (zs.take k)) (zs.getD k 0) by rw [hs, grst_snoc]); clear hs
      obtain ⟨b, off, rfl, hc⟩ : ∃ b off, a = some ⟨b, off, none⟩ ∧ ∀ i, i < len → w.cell? ⟨b, off + i, none⟩ = some (.int .u64 (zs.getD i 0)) := by
        rcases hr'.out with h | h
        · omega
        · exact h
      have hcell := hc k hlt
      clear hc
      by_cases hlt2 : grst f (zs.take k) < zs.getD k 0
      · go_wp2_with fail
        refine (less_any _ _ _ true (decide_eq_true hlt2)).mono ?_
        rintro e w' ⟨rfl, rfl⟩
        go_wp2
        go_round
        case rel => exact ⟨k + 1, by omega, by go_num, by rw [hmn.out]; refine congrArg _ ?_; show zs.getD k 0 = _; omega⟩
        case measure => simp [intOf]; omega
      · go_wp2_with fail
        refine (less_any _ _ _ false (decide_eq_false (show ¬ grst f (zs.take k) < zs.getD k 0 by omega))).mono ?_
        rintro e w' ⟨rfl, rfl⟩
        go_wp2
        go_round
        case rel => exact ⟨k + 1, by omega, by go_num, by rw [hmn.out]; refine congrArg _ ?_; omega⟩
        case measure => simp [intOf]; omega
    · obtain rfl : k = len := by omega
      go_wp2
      go_ret
      exact ⟨reti (by rw [hfin.out]), rfl⟩
/-- A row that a call has just built. -/
theorem row_new (w : World) {B : Nat} (zs : List Int) (hB : B = w.heap.size) : Row64 (w.alloc (.cells (zs.map (Value.int .u64)).toArray 22)) (some ⟨B, 0, none⟩) zs.length zs := by
  refine ⟨rfl, .inr ⟨B, 0, rfl, fun i hi => ?_⟩⟩
  rw [Nat.zero_add, (Blk.alloc_new w _ _ hB).cell i]
  simp [hi]
theorem row1 (w : World) {B : Nat} (x : Int) (hB : B = w.heap.size) : Row64 (w.alloc (.cells #[.int .u64 x] 22)) (some ⟨B, 0, none⟩) 1 [x] := row_new w [x] hB
theorem row2 (w : World) {B : Nat} (x y : Int) (hB : B = w.heap.size) : Row64 (w.alloc (.cells #[.int .u64 x, .int .u64 y] 22)) (some ⟨B, 0, none⟩) 2 [x, y] := row_new w [x, y] hB

def nxt (n u d : Int) : Int := min (max (max n u) d) 9223372036854775808
def idl (n u d e : Int) : Int := max 0 (min (min e 9223372036854775808) (nxt n u d) - max n u)
def wai (n u d : Int) : Int := if nxt n u d = 9223372036854775808 then nxt n u d else nxt n u d - n
theorem vNext (n u d : Int) (w : World) (hn : 0 ≤ n ∧ n ≤ 18446744073709551615) (hu : 0 ≤ u ∧ u ≤ 18446744073709551615) (hd : 0 ≤ d ∧ d ≤ 18446744073709551615) :
    Calls Try.prog 14 #[.int .u64 n, .int .u64 u, .int .u64 d] w fun e w' => e = .returned (.int .u64 (nxt n u d)) ∧ Below w.heap.size w w' := by
  have e1 := hide (show lst [grst n [u, d]] = nxt n u d by simp [lst, grst, nxt]; omega)
  have e2 := hide (show 0 ≤ grst n [u, d] ∧ grst n [u, d] ≤ 18446744073709551615 from grst_rng hn (by intro z hz; simp at hz; omega))
  go_enter Try.func14, Try.ntmps14
  go_wp2_with fail
  refine (greatest_any n _ _ _ [u, d] _ (row2 _ _ _ rfl) (by decide)).mono ?_
  rintro e w' ⟨rfl, rfl⟩
  go_wp2_with fail
  refine (bLeast _ _ _ [grst n [u, d]] _ (row1 _ _ (by simp)) (by decide) (by intro z hz; simp at hz; subst hz; exact e2.out)).mono ?_
  rintro e w' ⟨rfl, rfl⟩
  rw [e1.out]
  go_wp2
  go_ret
  exact ⟨rfl, by (repeat' (first | (with_reducible exact Below.refl _ _) | (with_reducible assumption) | (with_reducible refine below_drewN ?_ _) | (with_reducible refine Below.drew ?_) | (with_reducible refine Below.alloc ?_ ?_ _) | (with_reducible refine Below.setCell ?_ ?_ _) | go_size))⟩
theorem vrNext (n u d : Int) (w : World) :
    Calls Try.prog 15 #[.int .u64 n, .int .u64 u, .int .u64 d] w fun e w' => e = .returned (.int .u64 (nxt n u d)) ∧ w = w' := by
  go_enter Try.func15, Try.ntmps15
  go_wp2
  all_goals
    go_ret
    exact ⟨reti (by unfold nxt; omega), rfl⟩
theorem nxt_rng {n u d : Int} (hn : 0 ≤ n ∧ n ≤ 18446744073709551615) (hu : 0 ≤ u ∧ u ≤ 18446744073709551615) (hd : 0 ≤ d ∧ d ≤ 18446744073709551615) : 0 ≤ nxt n u d ∧ nxt n u d ≤ 18446744073709551615 := by unfold nxt; omega
theorem vWait (n u d : Int) (w : World) (hn : 0 ≤ n ∧ n ≤ 18446744073709551615) (hu : 0 ≤ u ∧ u ≤ 18446744073709551615) (hd : 0 ≤ d ∧ d ≤ 18446744073709551615) :
    Calls Try.prog 18 #[.int .u64 n, .int .u64 u, .int .u64 d] w fun e w' => e = .returned (.int .u64 (wai n u d)) ∧ Below w.heap.size w w' := by
  have r1 := nxt_rng hn hu hd
  by_cases h : nxt n u d = 9223372036854775808
  · have e1 := hide (show wai n u d = nxt n u d by unfold wai; rw [if_pos h])
    rw [e1.out]
    have hb : (nxt n u d == 9223372036854775808) = true := beq_iff_eq.2 h
    clear h
    go_enter Try.func18, Try.ntmps18
    go_wp2_with fail
    refine (vNext n u d _ hn hu hd).mono ?_
    rintro e w1 ⟨rfl, hb1⟩
    have g1 : Below w.heap.size w w1 := by refine Below.trans ?_ (hb1.mono ?_) <;> (repeat' (first | (with_reducible exact Below.refl _ _) | (with_reducible assumption) | (with_reducible refine below_drewN ?_ _) | (with_reducible refine Below.drew ?_) | (with_reducible refine Below.alloc ?_ ?_ _) | (with_reducible refine Below.setCell ?_ ?_ _) | go_size))
    have hz1 := hb1.size
    (try simp at hz1)
    clear hb1
    go_wp2
    go_ret
    exact ⟨rfl, by (repeat' (first | (with_reducible exact Below.refl _ _) | (with_reducible assumption) | (with_reducible refine below_drewN ?_ _) | (with_reducible refine Below.drew ?_) | (with_reducible refine Below.alloc ?_ ?_ _) | (with_reducible refine Below.setCell ?_ ?_ _) | go_size))⟩
  · have hb : (nxt n u d == 9223372036854775808) = false := beq_eq_false_iff_ne.2 h
    have hge : n ≤ nxt n u d := by unfold nxt at *; omega
    have e1 := hide (show wai n u d = nxt n u d - n by unfold wai; rw [if_neg h])
    rw [e1.out]
    clear h
    go_enter Try.func18, Try.ntmps18
    go_wp2_with fail
    refine (vNext n u d _ hn hu hd).mono ?_
    rintro e w1 ⟨rfl, hb1⟩
    have g1 : Below w.heap.size w w1 := by refine Below.trans ?_ (hb1.mono ?_) <;> (repeat' (first | (with_reducible exact Below.refl _ _) | (with_reducible assumption) | (with_reducible refine below_drewN ?_ _) | (with_reducible refine Below.drew ?_) | (with_reducible refine Below.alloc ?_ ?_ _) | (with_reducible refine Below.setCell ?_ ?_ _) | go_size))
    have hz1 := hb1.size
    (try simp at hz1)
    clear hb1
    go_wp2
    go_ret
    exact ⟨rfl, by (repeat' (first | (with_reducible exact Below.refl _ _) | (with_reducible assumption) | (with_reducible refine below_drewN ?_ _) | (with_reducible refine Below.drew ?_) | (with_reducible refine Below.alloc ?_ ?_ _) | (with_reducible refine Below.setCell ?_ ?_ _) | go_size))⟩
theorem vIdle (n u d t : Int) (w : World) (hn : 0 ≤ n ∧ n ≤ 18446744073709551615) (hu : 0 ≤ u ∧ u ≤ 18446744073709551615) (hd : 0 ≤ d ∧ d ≤ 18446744073709551615) (ht : 0 ≤ t ∧ t ≤ 18446744073709551615) :
    Calls Try.prog 16 #[.int .u64 n, .int .u64 u, .int .u64 d, .int .u64 t] w fun e w' => e = .returned (.int .u64 (idl n u d t)) ∧ Below w.heap.size w w' := by
  have r1 := nxt_rng hn hu hd
  have r2 : 0 ≤ grst n [u] ∧ grst n [u] ≤ 18446744073709551615 := grst_rng hn (by intro z hz; simp at hz; omega)
  have r3 : 0 ≤ lst [t, nxt n u d] ∧ lst [t, nxt n u d] ≤ 9223372036854775808 := lst_rng (by intro z hz; simp at hz; omega)
  have e2 := hide (show grst n [u] = max n u by simp [grst])
  have e3 := hide (show lst [t, nxt n u d] = min (min t 9223372036854775808) (nxt n u d) by simp [lst]; omega)
  by_cases h : lst [t, nxt n u d] ≤ grst n [u]
  · have e1 := hide (show idl n u d t = 0 by unfold idl; rw [← e2.out, ← e3.out]; omega)
    rw [e1.out]
    go_enter Try.func16, Try.ntmps16
    go_wp2_with fail
    refine (greatest_any n _ _ _ [u] _ (row1 _ _ rfl) (by decide)).mono ?_
    rintro e w' ⟨rfl, rfl⟩
    go_wp2_with fail
    refine (vNext n u d _ hn hu hd).mono ?_
    rintro e w1 ⟨rfl, hb1⟩
    have g1 : Below w.heap.size w w1 := by refine Below.trans ?_ (hb1.mono ?_) <;> (repeat' (first | (with_reducible exact Below.refl _ _) | (with_reducible assumption) | (with_reducible refine below_drewN ?_ _) | (with_reducible refine Below.drew ?_) | (with_reducible refine Below.alloc ?_ ?_ _) | (with_reducible refine Below.setCell ?_ ?_ _) | go_size))
    have hz1 := hb1.size
    (try simp at hz1)
    clear hb1
    go_wp2_with fail
    refine (bLeast _ _ _ [t, nxt n u d] _ (row2 _ _ _ (by simp)) (by decide) (by intro z hz; simp at hz; omega)).mono ?_
    rintro e w' ⟨rfl, rfl⟩
    go_wp2
    go_ret
    exact ⟨rfl, by (repeat' (first | (with_reducible exact Below.refl _ _) | (with_reducible assumption) | (with_reducible refine below_drewN ?_ _) | (with_reducible refine Below.drew ?_) | (with_reducible refine Below.alloc ?_ ?_ _) | (with_reducible refine Below.setCell ?_ ?_ _) | go_size))⟩
  · have e1 := hide (show idl n u d t = lst [t, nxt n u d] - grst n [u] by unfold idl; rw [← e2.out, ← e3.out]; omega)
    rw [e1.out]
    go_enter Try.func16, Try.ntmps16
    go_wp2_with fail
    refine (greatest_any n _ _ _ [u] _ (row1 _ _ rfl) (by decide)).mono ?_
    rintro e w' ⟨rfl, rfl⟩
    go_wp2_with fail
    refine (vNext n u d _ hn hu hd).mono ?_
    rintro e w1 ⟨rfl, hb1⟩
    have g1 : Below w.heap.size w w1 := by refine Below.trans ?_ (hb1.mono ?_) <;> (repeat' (first | (with_reducible exact Below.refl _ _) | (with_reducible assumption) | (with_reducible refine below_drewN ?_ _) | (with_reducible refine Below.drew ?_) | (with_reducible refine Below.alloc ?_ ?_ _) | (with_reducible refine Below.setCell ?_ ?_ _) | go_size))
    have hz1 := hb1.size
    (try simp at hz1)
    clear hb1
    go_wp2_with fail
    refine (bLeast _ _ _ [t, nxt n u d] _ (row2 _ _ _ (by simp)) (by decide) (by intro z hz; simp at hz; omega)).mono ?_
    rintro e w' ⟨rfl, rfl⟩
    go_wp2
    go_ret
    exact ⟨rfl, by (repeat' (first | (with_reducible exact Below.refl _ _) | (with_reducible assumption) | (with_reducible refine below_drewN ?_ _) | (with_reducible refine Below.drew ?_) | (with_reducible refine Below.alloc ?_ ?_ _) | (with_reducible refine Below.setCell ?_ ?_ _) | go_size))⟩
theorem vrIdle (n u d t : Int) (w : World) (hn : 0 ≤ n ∧ n ≤ 18446744073709551615) (hu : 0 ≤ u ∧ u ≤ 18446744073709551615) (hd : 0 ≤ d ∧ d ≤ 18446744073709551615) (ht : 0 ≤ t ∧ t ≤ 18446744073709551615) :
    Calls Try.prog 17 #[.int .u64 n, .int .u64 u, .int .u64 d, .int .u64 t] w fun e w' => e = .returned (.int .u64 (idl n u d t)) ∧ w = w' := by
  have r1 := nxt_rng hn hu hd
  have hx : nxt n u d ≤ 9223372036854775808 := by unfold nxt; omega
  rcases Int.lt_or_le n u with h1 | h1
  all_goals rcases Int.lt_or_le t (nxt n u d) with h2 | h2
  · rcases Int.lt_or_le t u with h3 | h3
    all_goals
      go_enter Try.func17, Try.ntmps17
      go_wp2_with fail
      refine (vrNext n u d _).mono ?_
      rintro e w' ⟨rfl, rfl⟩
      go_wp2
      go_ret
      exact ⟨reti (by unfold idl; omega), rfl⟩
  · rcases Int.lt_or_le (nxt n u d) u with h3 | h3
    all_goals
      go_enter Try.func17, Try.ntmps17
      go_wp2_with fail
      refine (vrNext n u d _).mono ?_
      rintro e w' ⟨rfl, rfl⟩
      go_wp2
      go_ret
      exact ⟨reti (by unfold idl; omega), rfl⟩
  · rcases Int.lt_or_le t n with h3 | h3
    all_goals
      go_enter Try.func17, Try.ntmps17
      go_wp2_with fail
      refine (vrNext n u d _).mono ?_
      rintro e w' ⟨rfl, rfl⟩
      go_wp2
      go_ret
      exact ⟨reti (by unfold idl; omega), rfl⟩
  · rcases Int.lt_or_le (nxt n u d) n with h3 | h3
    all_goals
      go_enter Try.func17, Try.ntmps17
      go_wp2_with fail
      refine (vrNext n u d _).mono ?_
      rintro e w' ⟨rfl, rfl⟩
      go_wp2
      go_ret
      exact ⟨reti (by unfold idl; omega), rfl⟩
theorem vNext_of (n u d c : Int) (w : World) (hn : 0 ≤ n ∧ n ≤ 18446744073709551615) (hu : 0 ≤ u ∧ u ≤ 18446744073709551615) (hd : 0 ≤ d ∧ d ≤ 18446744073709551615) (h : nxt n u d = c) :
    Calls Try.prog 14 #[.int .u64 n, .int .u64 u, .int .u64 d] w fun e w' => e = .returned (.int .u64 c) ∧ Below w.heap.size w w' := by subst h; exact vNext n u d w hn hu hd
theorem vWait_of (n u d c : Int) (w : World) (hn : 0 ≤ n ∧ n ≤ 18446744073709551615) (hu : 0 ≤ u ∧ u ≤ 18446744073709551615) (hd : 0 ≤ d ∧ d ≤ 18446744073709551615) (h : wai n u d = c) :
    Calls Try.prog 18 #[.int .u64 n, .int .u64 u, .int .u64 d] w fun e w' => e = .returned (.int .u64 c) ∧ Below w.heap.size w w' := by subst h; exact vWait n u d w hn hu hd
theorem vIdle_of (n u d t c : Int) (w : World) (hn : 0 ≤ n ∧ n ≤ 18446744073709551615) (hu : 0 ≤ u ∧ u ≤ 18446744073709551615) (hd : 0 ≤ d ∧ d ≤ 18446744073709551615) (ht : 0 ≤ t ∧ t ≤ 18446744073709551615) (h : idl n u d t = c) :
    Calls Try.prog 16 #[.int .u64 n, .int .u64 u, .int .u64 d, .int .u64 t] w fun e w' => e = .returned (.int .u64 c) ∧ Below w.heap.size w w' := by subst h; exact vIdle n u d t w hn hu hd ht
theorem nine_true (w : World) :
    Calls Try.prog 19 #[] w fun e w' => e = .returned (.bool true) ∧ Below w.heap.size w w' := by
  go_enter Try.func19, Try.ntmps19
  go_wp2_with fail
  refine (vNext_of 5 9 7 9 _ (by omega) (by omega) (by omega) (by unfold nxt; omega)).mono ?_
  rintro e w1 ⟨rfl, hb1⟩
  have g1 : Below w.heap.size w w1 := by refine Below.trans ?_ (hb1.mono ?_) <;> (repeat' (first | (with_reducible exact Below.refl _ _) | (with_reducible assumption) | (with_reducible refine below_drewN ?_ _) | (with_reducible refine Below.drew ?_) | (with_reducible refine Below.alloc ?_ ?_ _) | (with_reducible refine Below.setCell ?_ ?_ _) | go_size))
  have hz1 := hb1.size
  (try simp at hz1)
  clear hb1
  go_wp2_with fail
  refine (vWait_of 5 9 7 4 _ (by omega) (by omega) (by omega) (by unfold wai nxt; omega)).mono ?_
  rintro e w2 ⟨rfl, hb2⟩
  have g2 : Below w.heap.size w w2 := by refine Below.trans ?_ (hb2.mono ?_) <;> (repeat' (first | (with_reducible exact Below.refl _ _) | (with_reducible assumption) | (with_reducible refine below_drewN ?_ _) | (with_reducible refine Below.drew ?_) | (with_reducible refine Below.alloc ?_ ?_ _) | (with_reducible refine Below.setCell ?_ ?_ _) | go_size))
  have hz2 := hb2.size
  (try simp at hz2)
  clear hb2
  go_wp2_with fail
  refine (vNext_of 5 0 2 5 _ (by omega) (by omega) (by omega) (by unfold nxt; omega)).mono ?_
  rintro e w3 ⟨rfl, hb3⟩
  have g3 : Below w.heap.size w w3 := by refine Below.trans ?_ (hb3.mono ?_) <;> (repeat' (first | (with_reducible exact Below.refl _ _) | (with_reducible assumption) | (with_reducible refine below_drewN ?_ _) | (with_reducible refine Below.drew ?_) | (with_reducible refine Below.alloc ?_ ?_ _) | (with_reducible refine Below.setCell ?_ ?_ _) | go_size))
  have hz3 := hb3.size
  (try simp at hz3)
  clear hb3
  go_wp2_with fail
  refine (vIdle_of 5 9 20 15 6 _ (by omega) (by omega) (by omega) (by omega) (by unfold idl nxt; omega)).mono ?_
  rintro e w4 ⟨rfl, hb4⟩
  have g4 : Below w.heap.size w w4 := by refine Below.trans ?_ (hb4.mono ?_) <;> (repeat' (first | (with_reducible exact Below.refl _ _) | (with_reducible assumption) | (with_reducible refine below_drewN ?_ _) | (with_reducible refine Below.drew ?_) | (with_reducible refine Below.alloc ?_ ?_ _) | (with_reducible refine Below.setCell ?_ ?_ _) | go_size))
  have hz4 := hb4.size
  (try simp at hz4)
  clear hb4
  go_wp2_with fail
  refine (vIdle_of 5 9 20 30 11 _ (by omega) (by omega) (by omega) (by omega) (by unfold idl nxt; omega)).mono ?_
  rintro e w5 ⟨rfl, hb5⟩
  have g5 : Below w.heap.size w w5 := by refine Below.trans ?_ (hb5.mono ?_) <;> (repeat' (first | (with_reducible exact Below.refl _ _) | (with_reducible assumption) | (with_reducible refine below_drewN ?_ _) | (with_reducible refine Below.drew ?_) | (with_reducible refine Below.alloc ?_ ?_ _) | (with_reducible refine Below.setCell ?_ ?_ _) | go_size))
  have hz5 := hb5.size
  (try simp at hz5)
  clear hb5
  go_wp2_with fail
  refine (vWait_of 5 9 9223372036854775808 9223372036854775808 _ (by omega) (by omega) (by omega) (by unfold wai nxt; omega)).mono ?_
  rintro e w6 ⟨rfl, hb6⟩
  have g6 : Below w.heap.size w w6 := by refine Below.trans ?_ (hb6.mono ?_) <;> (repeat' (first | (with_reducible exact Below.refl _ _) | (with_reducible assumption) | (with_reducible refine below_drewN ?_ _) | (with_reducible refine Below.drew ?_) | (with_reducible refine Below.alloc ?_ ?_ _) | (with_reducible refine Below.setCell ?_ ?_ _) | go_size))
  have hz6 := hb6.size
  (try simp at hz6)
  clear hb6
  go_wp2
  go_ret
  exact ⟨rfl, by (repeat' (first | (with_reducible exact Below.refl _ _) | (with_reducible assumption) | (with_reducible refine below_drewN ?_ _) | (with_reducible refine Below.drew ?_) | (with_reducible refine Below.alloc ?_ ?_ _) | (with_reducible refine Below.setCell ?_ ?_ _) | go_size))⟩
end Go.Proofs.Ytapikbgloagnkaa
