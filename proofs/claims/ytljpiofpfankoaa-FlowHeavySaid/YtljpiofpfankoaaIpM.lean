/-
  The reference's Bad in plain words. Conditions: a string that is not too long.
-/
import Derived.Test.YtljpiofpfankoaaIpL
namespace Go.Proofs.Ytljpiofpfankoaa
open Go.RowKit Go.Sort
set_option linter.unusedVariables false
set_option linter.unusedSimpArgs false
/-- The header's length that the first byte tells; the datagram's length; the bytes that are summed. -/
def szR (l : List Int) : Nat := (l.getD 0 0 % 16 * 4).toNat
def alR (l : List Int) : Int := l.getD 2 0 * 256 + l.getD 3 0
def ckL (l : List Int) : List Int := l.take 10 ++ (l.drop 12).take (szR l - 12)
/-- Why bytes are no datagram. -/
def badR (l : List Int) : Int :=
  if l.length < 20 then 3 else if l.getD 0 0 < 69 ∨ 79 < l.getD 0 0 then 4 else if alR l < szR l then 4 else if (l.length : Int) < alR l then 3 else if alR l < l.length then 2
  else if l.getD 10 0 * 256 + l.getD 11 0 ≠ 65535 - sumS (ckL l) then 7 else 0
theorem ipBad (l : List Int) (w : World) (hl : Byt l) (hb : l.length ≤ 4611686018427387904) :
    Calls Try.prog 28 #[SV l] w fun e w' => e = .returned (.int .i64 (badR l)) ∧ Below w.heap.size w w' := by
  unfold badR
  by_cases c0 : l.length < 20
  · rw [if_pos c0]; exact ipBad_3 l w c0
  rw [if_neg c0]
  by_cases c1 : l.getD 0 0 < 69
  · rw [if_pos (.inl c1)]; exact ipBad_4a l [] 0 0 0 0 0 w hl hb (by omega) c1
  by_cases c2 : 79 < l.getD 0 0
  · rw [if_pos (.inr c2)]; exact ipBad_4b l [] 0 0 0 0 0 w hl hb (by omega) c2
  rw [if_neg (by omega)]
  have hsz : l.getD 0 0 % 16 * 4 = (szR l : Int) := by have := hl.get 0; unfold szR; omega
  have h1 : 69 ≤ l.getD 0 0 ∧ l.getD 0 0 ≤ 79 := by omega
  by_cases c3 : alR l < szR l
  · rw [if_pos c3]; exact ipBad_4c l [] (szR l) (alR l) 0 0 0 w hl hb (by omega) h1 hsz rfl c3
  rw [if_neg c3]
  by_cases c4 : (l.length : Int) < alR l
  · rw [if_pos c4]; exact ipBad_s l [] (szR l) (alR l) 0 0 0 w hl hb (by omega) h1 hsz rfl (by omega) c4
  rw [if_neg c4]
  by_cases c5 : alR l < l.length
  · rw [if_pos c5]; exact ipBad_l l [] (szR l) (alR l) 0 0 0 w hl hb (by omega) h1 hsz rfl (by omega) c5
  rw [if_neg c5]
  by_cases c6 : l.getD 10 0 * 256 + l.getD 11 0 ≠ 65535 - sumS (ckL l)
  · rw [if_pos c6]; exact ipBad_7 l _ (szR l) (alR l) _ _ _ w hl hb (by omega) h1 hsz rfl (by omega) (by omega) rfl rfl rfl rfl c6
  · rw [if_neg c6]; exact ipBad_0 l _ (szR l) (alR l) _ _ _ w hl hb (by omega) h1 hsz rfl (by omega) (by omega) rfl rfl rfl rfl (Decidable.not_not.1 c6)
end Go.Proofs.Ytljpiofpfankoaa
