/-
  The walk of bound.Least: the least of any numbers, and 2^63. Conditions: a slice whose cells are known.
-/
import Derived.Test.YtapikbgloagnkaaRows
import Derived.Test.YtapikbgloagnkaaNum
namespace Go.Proofs.Ytapikbgloagnkaa
open Go.RowKit
set_option linter.unusedVariables false

/-- The least of numbers, and 2^63. -/
def lst (zs : List Int) : Int := zs.foldl min 9223372036854775808
theorem lst_snoc (zs : List Int) (z : Int) : lst (zs ++ [z]) = min (lst zs) z := by unfold lst; simp
theorem lst_rng {zs : List Int} (h : ∀ z ∈ zs, 0 ≤ z ∧ z ≤ 18446744073709551615) : 0 ≤ lst zs ∧ lst zs ≤ 9223372036854775808 := by
  unfold lst
  suffices ∀ (m : Int), 0 ≤ m → m ≤ 9223372036854775808 → 0 ≤ zs.foldl min m ∧ zs.foldl min m ≤ 9223372036854775808 from this _ (by omega) (by omega)
  induction zs with
  | nil => intro m h0 h1; exact ⟨h0, h1⟩
  | cons z zs ih =>
    intro m h0 h1
    have hz := h z (by simp)
    exact ih (fun y hy => h y (by simp [hy])) _ (by omega) (by omega)
/-- A slice of numbers: its cells. -/
def Row64 (w : World) (a : Option Addr) (len : Nat) (zs : List Int) : Prop :=
  zs.length = len ∧ (len = 0 ∨ ∃ b off, a = some ⟨b, off, none⟩ ∧ ∀ i, i < len → w.cell? ⟨b, off + i, none⟩ = some (.int .u64 (zs.getD i 0)))
theorem take_snoc' (zs : List Int) (k : Nat) (h : k < zs.length) : zs.take (k + 1) = zs.take k ++ [zs.getD k 0] := by
  rw [List.take_succ_eq_append_getElem h]; simp [h]
set_option maxHeartbeats 400000 in
theorem bLeast (a : Option Addr) (len cap : Nat) (zs : List Int) (w : World) (hr : Row64 w a len zs) (hm : len ≤ 9223372036854775807) (hz : ∀ z ∈ zs, 0 ≤ z ∧ z ≤ 18446744073709551615) :
    Calls Try.prog 45 #[.slice a len cap] w fun e w' => e = .returned (.int .u64 (lst zs)) ∧ w = w' := by
  obtain ⟨hlen, hr⟩ := hr
  have hl0 : lst (zs.take 0) = 9223372036854775808 := rfl
  have hfin := hide (show zs.take len = zs from List.take_of_length_le (by omega))
  have hz' := hide hz; clear hz
  have hlen' := hide hlen; clear hlen
  have hr' := hide hr; clear hr
  go_enter Try.func45, Try.ntmps45
  go_wp2
  go_loop [3, 8] (fun t i => ∃ k : Nat, k ≤ len ∧ i = .int .i64 k ∧ t = .int .u64 (lst (zs.take k))) (fun _ i => len - (intOf i).toNat)
  case atStart => exact ⟨0, Nat.zero_le _, rfl, rfl⟩
  case round =>
    obtain ⟨k, hk, rfl, rfl⟩ := hrel
    by_cases hlt : k < len
    · have hs := take_snoc' zs k (by rw [hlen'.out]; exact hlt)
      have hg : 0 ≤ zs.getD k 0 ∧ zs.getD k 0 ≤ 18446744073709551615 := hz'.out _ (by have hq : k < zs.length := (by rw [hlen'.out]; exact hlt); simp [hq])
      have hmn := hide (show lst (zs.take (k + 1)) = min (lst (zs.take k)) (zs.getD k 0) by rw [hs, lst_snoc]); clear hs
      obtain ⟨b, off, rfl, hc⟩ : ∃ b off, a = some ⟨b, off, none⟩ ∧ ∀ i, i < len → w.cell? ⟨b, off + i, none⟩ = some (.int .u64 (zs.getD i 0)) := by
        rcases hr'.out with h | h
        · omega
        · exact h
      have hcell := hc k hlt
      clear hc
      go_wp2
      go_round
      case rel => exact ⟨k + 1, by omega, by go_num, by rw [hmn.out]; refine congrArg _ ?_; show (if zs.getD k 0 < _ then zs.getD k 0 else _) = _; split <;> omega⟩
      case measure => simp [intOf]; omega
    · obtain rfl : k = len := by omega
      go_wp2
      go_ret
      exact ⟨reti (by rw [hfin.out]), rfl⟩
end Go.Proofs.Ytapikbgloagnkaa
