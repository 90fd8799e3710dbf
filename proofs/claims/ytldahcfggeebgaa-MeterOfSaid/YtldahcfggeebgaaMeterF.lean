/-
  What any call makes of a meter. Conditions: numbers in range.
-/
import Derived.Test.YtldahcfggeebgaaMeterE
namespace Go.Proofs.Ytldahcfggeebgaa
open Go.RowKit
set_option linter.unusedVariables false
set_option linter.unusedSimpArgs false
/-- A meter's numbers. -/
def MIn (a n o : Int) : Prop := (0 ≤ a ∧ a ≤ 72057594037927936) ∧ (0 ≤ n ∧ n ≤ 4611686018427387904) ∧ (0 ≤ o ∧ o ≤ 1099511627776)
/-- No more than so many bytes a window. -/
def MMost (M a o : Int) : Prop := a ≤ M * 65536 ∧ o ≤ M
theorem to_rng {at_ wd to : Int} (hat : 0 ≤ at_ ∧ at_ ≤ 4611686018427387904) (hw : 1 ≤ wd) (hto : at_ / wd = to) : 0 ≤ to ∧ to ≤ 4611686018427387904 := by
  have h1 := Int.ediv_nonneg hat.1 (show 0 ≤ wd by omega)
  have h2 := Int.ediv_le_self wd hat.1
  omega
theorem MIn.turn {s a n o to : Int} (h : MIn a n o) (ht : 0 ≤ to ∧ to ≤ 4611686018427387904) (b : Int) (hb : 0 ≤ b) : MIn (mavg s a o n to) to (min (mopen o n to + b) 1099511627776) := by
  obtain ⟨h1, h2, h3⟩ := h
  have r1 := mavg_rng (s := s) (num := n) (to := to) h1 ⟨h3.1, show o * 65536 ≤ 72057594037927936 by omega⟩
  have r2 := mopen_rng (num := n) (to := to) h3
  exact ⟨r1, ht, by omega⟩
theorem MIn.open_ {s a n o to : Int} (h : MIn a n o) (ht : 0 ≤ to ∧ to ≤ 4611686018427387904) : MIn (mavg s a o n to) to (mopen o n to) := by
  obtain ⟨h1, h2, h3⟩ := h
  have r1 := mavg_rng (s := s) (num := n) (to := to) h1 ⟨h3.1, show o * 65536 ≤ 72057594037927936 by omega⟩
  have r2 := mopen_rng (num := n) (to := to) h3
  exact ⟨r1, ht, r2⟩
theorem MMost.turn {s a n o to M : Int} (h : MMost M a o) (h0 : MIn a n o) : mavg s a o n to ≤ M * 65536 ∧ mopen o n to ≤ M := by
  have r1 := mavg_rng (s := s) (num := n) (to := to) (C := M * 65536) ⟨h0.1.1, h.1⟩ ⟨h0.2.2.1, by have := h.2; omega⟩
  have r2 := mopen_rng (num := n) (to := to) (C := M) ⟨h0.2.2.1, h.2⟩
  exact ⟨r1.2, r2.2⟩
/-- What a call of Add makes of a meter, whatever it tells. -/
theorem meAdd_any (L : Nat) (wd s a n o at_ b : Int) (w : World) (hL : Blk w L #[.int .u64 (wd), .int .u64 (s), .int .u64 (a), .int .u64 (n), .int .u64 (o)] 77) (hw : 1 ≤ wd) (hs : 0 ≤ s ∧ s ≤ 8) (hat : 0 ≤ at_ ∧ at_ ≤ 18446744073709551615) (hb : -9223372036854775808 ≤ b ∧ b ≤ 9223372036854775807) (hi : MIn a n o) :
    Calls Try.prog 19 #[.pointer (some ⟨L, 0, none⟩), .int .u64 at_, .int .i64 b] w fun e w' => ∃ k a' n' o', e = .returned (.int .i64 k) ∧ Blk w' L #[.int .u64 (wd), .int .u64 (s), .int .u64 (a'), .int .u64 (n'), .int .u64 (o')] 77 ∧ KeptBut L w w' ∧ MIn a' n' o' ∧ (∀ M, MMost M a o → a' ≤ M * 65536) := by
  have keep : ∀ k w', Below w.heap.size w w' → ∃ k' a' n' o', Ending.returned (.int .i64 k) = .returned (.int .i64 k') ∧ Blk w' L #[.int .u64 (wd), .int .u64 (s), .int .u64 (a'), .int .u64 (n'), .int .u64 (o')] 77 ∧ KeptBut L w w' ∧ MIn a' n' o' ∧ (∀ M, MMost M a o → a' ≤ M * 65536) := fun k w' h =>
    ⟨k, a, n, o, rfl, hL.below h hL.size, KeptBut.of_below h (Nat.le_of_lt hL.size), hi, fun M hM => hM.1⟩
  by_cases h1 : b < 0
  · refine (meAdd_len L at_ b w h1).mono fun e w' ⟨h, h'⟩ => ?_
    subst h; exact keep _ _ h'
  by_cases h2 : at_ / wd < n ∨ 4611686018427387904 < at_
  · refine (meAdd_bad L wd s a n o at_ _ w hL hw hat rfl b (by omega) h2).mono fun e w' ⟨h, h'⟩ => ?_
    subst h; exact keep _ _ h'
  have ht := to_rng (to := at_ / wd) ⟨hat.1, by omega⟩ hw rfl
  refine (meAdd_ok L wd s a n o at_ _ w hL hw hat rfl (by omega) (by omega) hi.2.1.1 hs hi.1 hi.2.2 b _ _ ⟨by omega, hb.2⟩ rfl rfl).mono fun e w' ⟨h, h', h''⟩ => ?_
  exact ⟨0, _, _, _, h, h', h'', hi.turn ht b (by omega), fun M hM => (hM.turn hi).1⟩
/-- What a call of Average makes of a meter. -/
theorem meAvg_any (L : Nat) (wd s a n o at_ : Int) (w : World) (hL : Blk w L #[.int .u64 (wd), .int .u64 (s), .int .u64 (a), .int .u64 (n), .int .u64 (o)] 77) (hw : 1 ≤ wd) (hs : 0 ≤ s ∧ s ≤ 8) (hat : 0 ≤ at_ ∧ at_ ≤ 18446744073709551615) (hi : MIn a n o) :
    Calls Try.prog 15 #[.pointer (some ⟨L, 0, none⟩), .int .u64 at_] w fun e w' => ∃ r k a' n' o', e = .returned (.tuple #[.int .u64 r, .int .i64 k]) ∧ Blk w' L #[.int .u64 (wd), .int .u64 (s), .int .u64 (a'), .int .u64 (n'), .int .u64 (o')] 77 ∧ KeptBut L w w' ∧ MIn a' n' o' ∧ (∀ M, MMost M a o → r ≤ M * 65536 ∧ MMost M a' o') ∧ 0 ≤ r ∧ r ≤ 72057594037927936 := by
  by_cases h2 : at_ / wd < n ∨ 4611686018427387904 < at_
  · refine (meAvg_bad L wd s a n o at_ _ w hL hw hat rfl h2).mono fun e w' ⟨h, h'⟩ => ?_
    exact ⟨0, 27, a, n, o, h, hL.below h' hL.size, KeptBut.of_below h' (Nat.le_of_lt hL.size), hi, fun M hM => ⟨by have := hi.2.2; have := hM.2; omega, hM⟩, by omega, by omega⟩
  have ht := to_rng (to := at_ / wd) ⟨hat.1, by omega⟩ hw rfl
  refine (meAvg_ok L wd s a n o at_ _ w hL hw hat rfl (by omega) (by omega) hi.2.1.1 hs hi.1 hi.2.2 _ _ rfl rfl).mono fun e w' ⟨h, h', h''⟩ => ?_
  have ho := hi.open_ (s := s) ht
  exact ⟨_, 0, _, _, _, h, h', h'', ho, fun M hM => ⟨(hM.turn hi).1, hM.turn hi⟩, ho.1.1, ho.1.2⟩
theorem rMay (wd s : Int) (b : Bool) (w : World) (hb : decide (1 ≤ wd ∧ wd ≤ 4294967296 ∧ 0 ≤ s ∧ s ≤ 8) = b) :
    Calls Try.prog 14 #[.int .u64 wd, .int .i64 s] w fun e w' => e = .returned (.bool b) ∧ w = w' := by
  subst hb
  have key : ∀ c1 c2 c3 c4 : Bool, decide (1 ≤ wd) = c1 → decide (wd ≤ 4294967296) = c2 → decide (0 ≤ s) = c3 → decide (s ≤ 8) = c4 → Calls Try.prog 14 #[.int .u64 wd, .int .i64 s] w fun e w' => e = .returned (.bool (c1 && (c2 && (c3 && c4)))) ∧ w = w' := by
    intro c1 c2 c3 c4 d1 d2 d3 d4
    rcases c1 with _ | _ <;> rcases c2 with _ | _ <;> rcases c3 with _ | _ <;> rcases c4 with _ | _
    all_goals
      go_enter Try.func14, Try.ntmps14
      go_wp2
      go_ret
      exact ⟨rfl, rfl⟩
  refine (key _ _ _ _ rfl rfl rfl rfl).mono fun e w' ⟨h, h'⟩ => ⟨h.trans (retb ?_), h'⟩
  by_cases a1 : 1 ≤ wd <;> by_cases a2 : wd ≤ 4294967296 <;> by_cases a3 : 0 ≤ s <;> by_cases a4 : s ≤ 8 <;> simp [a1, a2, a3, a4]
end Go.Proofs.Ytldahcfggeebgaa
