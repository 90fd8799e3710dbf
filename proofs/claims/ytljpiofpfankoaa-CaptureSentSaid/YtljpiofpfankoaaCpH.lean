/-
  Captures: all of capture.Decode; capture.Encode of too many frames. Conditions: a string that is not too long.
-/
import Derived.Test.YtljpiofpfankoaaCpG
namespace Go.Proofs.Ytljpiofpfankoaa
open Go.RowKit Go.Sort
set_option linter.unusedVariables false
set_option linter.unusedSimpArgs false
/-- What the bytes are: an error's number; the frames. -/
def decE (l : List Int) : Int × List FM := if l.length < 4 then (3, []) else if l.take 4 ≠ flog then (4, []) else decG ((l.drop 4).length + 1) (l.drop 4) 0 []
set_option maxRecDepth 100000 in
set_option maxHeartbeats 4000000 in
theorem capDec_3 (l : List Int) (w : World) (h : l.length < 4) :
    Calls Try.prog 17 #[SV l] w fun x w' => x = .returned (.tuple #[.slice none 0 0, .int .i64 3]) ∧ Below w.heap.size w w' := by
  have ks := sv_size
  have d0 : decide ((l.length : Int) < 4) = true := decide_eq_true (by omega)
  go_enter Try.func17, Try.ntmps17
  go_wp2
  go_step3
  go_wp2
  try simp only [Exit.noGoto]
  go_ret2
  exact ⟨rfl, by (repeat' (first | (with_reducible (first | exact Below.refl _ _ | assumption | refine below_drewN ?_ _ | refine Below.drew ?_ | refine Below.alloc ?_ ?_ _ | refine Below.setCell ?_ ?_ _)) | go_size))⟩
set_option maxRecDepth 100000 in
set_option maxHeartbeats 4000000 in
theorem capDec_4 (l : List Int) (w : World) (hl : Byt l) (hb : l.length ≤ 4611686018427387904) (h4 : 4 ≤ l.length) (hf : l.take 4 ≠ flog) :
    Calls Try.prog 17 #[SV l] w fun x w' => x = .returned (.tuple #[.slice none 0 0, .int .i64 4]) ∧ Below w.heap.size w w' := by
  have ks := sv_size
  have d0 : decide ((l.length : Int) < 4) = false := decide_eq_false (by omega)
  have KP := hide (show ∀ v, Calls Try.prog 42 #[SV l, .string ⟨#[102, 108, 111, 103]⟩] v fun e w' => e = .returned (.tuple #[SV l, .bool false]) ∧ v = w' from fun v => by have h := cutPre l v hl hb; rw [if_neg hf, decide_eq_false hf] at h; exact h)
  clear hf
  go_enter Try.func17, Try.ntmps17
  go_wp2
  go_step3
  go_upto_region 3 with (fail)
  go_wp2_with fail
  refine (KP.out _).mono ?_
  rintro e u1 ⟨rfl, rfl⟩
  go_wp2
  try simp only [Exit.noGoto]
  go_ret2
  exact ⟨rfl, by (repeat' (first | (with_reducible (first | exact Below.refl _ _ | assumption | refine below_drewN ?_ _ | refine Below.drew ?_ | refine Below.alloc ?_ ?_ _ | refine Below.setCell ?_ ?_ _)) | go_size))⟩
theorem capDecode (l : List Int) (w : World) (hl : Byt l) (hb : l.length ≤ 4611686018427387904) :
    Calls Try.prog 17 #[SV l] w fun x w' => ∃ v, x = .returned (.tuple #[v, .int .i64 (decE l).1]) ∧ ((decE l).1 = 0 → HoldFr w' w.heap.size v (decE l).2) ∧ ((decE l).1 ≠ 0 → v = .slice none 0 0) ∧ Below w.heap.size w w' := by
  by_cases h4 : l.length < 4
  · have he : decE l = (3, []) := by unfold decE; rw [if_pos h4]
    rw [he]
    refine (capDec_3 l w h4).mono ?_
    rintro e w' ⟨rfl, h⟩
    exact ⟨_, rfl, fun h => absurd h (by decide), fun _ => rfl, h⟩
  by_cases hf : l.take 4 ≠ flog
  · have he : decE l = (4, []) := by unfold decE; rw [if_neg h4, if_pos hf]
    rw [he]
    refine (capDec_4 l w hl hb (by omega) hf).mono ?_
    rintro e w' ⟨rfl, h⟩
    exact ⟨_, rfl, fun h => absurd h (by decide), fun _ => rfl, h⟩
  · obtain ⟨e, F, hE⟩ : ∃ e F, decE l = (e, F) := ⟨_, _, rfl⟩
    rw [hE]
    have he : decG ((l.drop 4).length + 1) (l.drop 4) 0 [] = (e, F) := by rw [← hE]; unfold decE; rw [if_neg h4, if_neg hf]
    exact capDecode_ok l (l.drop 4) e F w hl hb (by omega) (Decidable.not_not.1 hf) rfl he
theorem capEnc_2 (L : List FM) (a : Option Addr) (cap : Nat) (w : World) (hn : 1000 < L.length) (hb : L.length ≤ 4611686018427387904) :
    Calls Try.prog 14 #[.slice a L.length cap] w fun x w' => x = .returned (.tuple #[.string ⟨#[]⟩, .int .i64 2]) ∧ Below w.heap.size w w' := by
  have d0 : decide (1000 < (L.length : Int)) = true := decide_eq_true (by omega)
  have d0n : decide (1000 < L.length) = true := decide_eq_true hn
  go_enter Try.func14, Try.ntmps14
  go_wp2
  go_ret2
  exact ⟨rfl, by (repeat' (first | (with_reducible (first | exact Below.refl _ _ | assumption | refine below_drewN ?_ _ | refine Below.drew ?_ | refine Below.alloc ?_ ?_ _ | refine Below.setCell ?_ ?_ _)) | go_size))⟩
end Go.Proofs.Ytljpiofpfankoaa
