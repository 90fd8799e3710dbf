/-
  The walks of the reference's at, Full, Wrong, Encode. Conditions: fields in range.
-/
import Derived.Test.YtljpiofpfankoaaIpB
import Derived.Test.YtljpiofpfankoaaCalm
namespace Go.Proofs.Ytljpiofpfankoaa
open Go.RowKit Go.Sort
set_option linter.unusedVariables false
set_option linter.unusedSimpArgs false
theorem getD_drop (l : List Int) (i k : Nat) : (l.drop i).getD k 0 = l.getD (i + k) 0 := by
  simp [List.getD, List.getElem?_drop]
set_option maxHeartbeats 1000000 in
theorem ipAt (l : List Int) (I N : Int) (i n : Nat) (r : Int) (w : World) (hI : I = (i : Int)) (hN : N = (n : Int)) (hl : Byt l) (hi : i + n ≤ l.length) (hn : n ≤ 4) (hb : l.length ≤ 4611686018427387904) (hr : hor (l.drop i) n = r) :
    Calls Try.prog 49 #[SV l, .int .i64 I, .int .i64 N] w fun e w' => e = .returned (.int .i64 r) ∧ w = w' := by
  subst hI hN
  have Hr := hide hr; have Hl := hide hl
  have hd : Byt (l.drop i) := fun x hx => hl x (List.mem_of_mem_drop hx)
  have Hd := hide hd
  clear hr hl hd
  go_enter Try.func49, Try.ntmps49
  go_wp2
  go_loop [7, 10] (fun t j => ∃ k : Nat, k ≤ n ∧ j = .int .i64 k ∧ ∃ c, t = .int .i64 c ∧ Hid (hor (l.drop i) k = c)) (fun _ j => n - (intOf j).toNat)
  case atStart => exact ⟨0, Nat.zero_le _, rfl, 0, rfl, rfl⟩
  case round =>
    obtain ⟨k, hk, rfl, c, rfl, hcc⟩ := hrel
    by_cases hlt : k < n
    · have hs := hor_small Hd.out k (by omega)
      rw [hcc.out] at hs
      obtain ⟨z, hz⟩ : ∃ z, l.getD (i + k) 0 = z := ⟨_, rfl⟩
      have hzr := Hl.out.get (i + k)
      rw [hz] at hzr
      have hix := fun v => sv_idx Hl.out (i + k) z (by omega) hz v
      have e : ((i + k : Nat) : Int) = (i : Int) + (k : Int) := by omega
      simp only [e] at hix
      clear e
      have hnx : hor (l.drop i) (k + 1) = c * 256 + z := by show hor _ k * 256 + (l.drop i).getD k 0 = _; rw [hcc.out, getD_drop, hz]
      have hN := hide hnx
      clear hz hnx hcc
      go_wp2
      go_round
      case rel => exact ⟨k + 1, by omega, by go_num, _, rfl, hN⟩
      case measure => simp [intOf]; omega
    · obtain rfl : k = n := by omega
      have hres : c = r := hcc.out.symm.trans Hr.out
      clear hcc
      go_wp2
      go_ret
      subst hres
      exact ⟨rfl, rfl⟩
/-- Options, filled up, round by round. -/
def flr : Nat → List Int → List Int
  | 0, l => l
  | m + 1, l => flr m (if l.length % 4 = 0 then l else l ++ [0])
def full (l : List Int) : List Int := flr 3 l
theorem full_len (l : List Int) : (full l).length % 4 = 0 ∧ l.length ≤ (full l).length ∧ (full l).length ≤ l.length + 3 := by
  have : l.length % 4 = 0 ∨ l.length % 4 = 1 ∨ l.length % 4 = 2 ∨ l.length % 4 = 3 := by omega
  unfold full flr flr flr flr
  rcases this with h | h | h | h <;> simp [h] <;> (repeat' split) <;> simp_all <;> omega
/-- A datagram's header. -/
structure HD where
  (tos id fl off ttl pr src dst : Int)
  (o : List Int)
abbrev hdv (h : HD) : Value := .agg #[.int .u8 h.tos, .int .u16 h.id, .int .u8 h.fl, .int .u16 h.off, .int .u8 h.ttl, .int .u8 h.pr, .int .u32 h.src, .int .u32 h.dst, SV h.o]
def HD.ok (h : HD) : Prop := (0 ≤ h.tos ∧ h.tos ≤ 255) ∧ (0 ≤ h.id ∧ h.id ≤ 65535) ∧ (0 ≤ h.fl ∧ h.fl ≤ 255) ∧ (0 ≤ h.off ∧ h.off ≤ 65535) ∧ (0 ≤ h.ttl ∧ h.ttl ≤ 255) ∧ (0 ≤ h.pr ∧ h.pr ≤ 255) ∧ (0 ≤ h.src ∧ h.src ≤ 4294967295) ∧ (0 ≤ h.dst ∧ h.dst ≤ 4294967295) ∧ Byt h.o
def HD.zero : HD := ⟨0, 0, 0, 0, 0, 0, 0, 0, []⟩
/-- Why a datagram may not be. -/
def wrongR (h : HD) (n : Nat) : Int := if 7 < h.fl ∨ 8191 < h.off then 1 else if 40 < h.o.length ∨ 65535 - 20 - ((full h.o).length : Int) < n then 2 else 0
end Go.Proofs.Ytljpiofpfankoaa
