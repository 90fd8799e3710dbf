/-
  The walks of ipv4's small functions: two, four, join; of the reference's bytes, at. Conditions: fields in range.
-/
import Derived.Test.YtljpiofpfankoaaIpA
import Derived.Laws.BytesString
import Derived.KernelRfl
namespace Go.Proofs.Ytljpiofpfankoaa
open Go.RowKit
set_option linter.unusedVariables false
set_option linter.unusedSimpArgs false
theorem strOf_app (a b : List Int) : strOfNums a ++ strOfNums b = strOfNums (a ++ b) := by
  unfold strOfNums
  rw [List.map_append, ← ByteArray.mk_append_mk]
/-- Two bytes in a block of their own, as a string: what the walk rewrites with. -/
theorem kconv2 (v : World) (B : Nat) (h0 : v.cell? ⟨B, 0, none⟩ = some (.int .u8 (intOf ((v.cell? ⟨B, 0, none⟩).getD undef)))) (h1 : v.cell? ⟨B, 1, none⟩ = some (.int .u8 (intOf ((v.cell? ⟨B, 1, none⟩).getD undef)))) :
    (convert 73 9 (.slice (some ⟨B, 0, none⟩) 2 2)).run Try.prog v = .ok (SV [intOf ((v.cell? ⟨B, 0, none⟩).getD undef), intOf ((v.cell? ⟨B, 1, none⟩).getD undef)]) v :=
  run_convert_bytes_arg (P := Try.prog) v 73 5 Try.underlying73 Try.underlying5 B 0 2 2 _ rfl (fun i hi => by
    have : i = 0 ∨ i = 1 := by omega
    rcases this with rfl | rfl
    · exact h0
    · exact h1) 9 Try.underlying9
theorem kconv1 (v : World) (B : Nat) (h0 : v.cell? ⟨B, 0, none⟩ = some (.int .u8 (intOf ((v.cell? ⟨B, 0, none⟩).getD undef)))) :
    (convert 73 9 (.slice (some ⟨B, 0, none⟩) 1 1)).run Try.prog v = .ok (SV [intOf ((v.cell? ⟨B, 0, none⟩).getD undef)]) v :=
  run_convert_bytes_arg (P := Try.prog) v 73 5 Try.underlying73 Try.underlying5 B 0 1 1 _ rfl (fun i hi => by
    obtain rfl : i = 0 := by omega
    exact h0) 9 Try.underlying9
theorem intOf_int (k : IntKind) (x : Int) : intOf (.int k x) = x := rfl
theorem ipTwo (v : Int) (w : World) (h : 0 ≤ v ∧ v ≤ 65535) :
    Calls Try.prog 55 #[.int .u16 v] w fun e w' => e = .returned (SV [v / 256, v % 256]) ∧ Below w.heap.size w w' := by
  have k2 := kconv2
  have ki := intOf_int
  go_enter Try.func55, Try.ntmps55
  go_wp2
  go_ret
  exact ⟨rfl, by (repeat' (first | (with_reducible (first | exact Below.refl _ _ | assumption | refine below_drewN ?_ _ | refine Below.drew ?_ | refine Below.alloc ?_ ?_ _ | refine Below.setCell ?_ ?_ _)) | go_size))⟩
theorem ipFour (v : Int) (w : World) (h : 0 ≤ v ∧ v ≤ 4294967295) :
    Calls Try.prog 56 #[.int .u32 v] w fun e w' => e = .returned (SV [v / 16777216, v / 65536 % 256, v / 256 % 256, v % 256]) ∧ Below w.heap.size w w' := by
  have ka := strOf_app
  have ks := sv_size
  have h1 : v / 65536 % 65536 = v / 65536 := by omega
  have h2 : v / 65536 / 256 = v / 16777216 := by omega
  have h3 : v % 65536 / 256 = v / 256 % 256 := by omega
  go_enter Try.func56, Try.ntmps56
  go_wp2_with fail
  refine (ipTwo (v / 65536) _ (by omega)).mono ?_
  rintro e w1 ⟨rfl, hb1⟩
  have g1 : Below w.heap.size w w1 := by refine Below.trans ?_ (hb1.mono ?_) <;> (repeat' (first | (with_reducible (first | exact Below.refl _ _ | assumption | refine below_drewN ?_ _ | refine Below.drew ?_ | refine Below.alloc ?_ ?_ _ | refine Below.setCell ?_ ?_ _)) | go_size))
  have hz1 := hb1.size
  (try simp at hz1)
  clear hb1
  go_wp2_with fail
  refine (ipTwo (v % 65536) _ (by omega)).mono ?_
  rintro e w2 ⟨rfl, hb2⟩
  have g2 : Below w.heap.size w w2 := by refine Below.trans ?_ (hb2.mono ?_) <;> (repeat' (first | (with_reducible (first | exact Below.refl _ _ | assumption | refine below_drewN ?_ _ | refine Below.drew ?_ | refine Below.alloc ?_ ?_ _ | refine Below.setCell ?_ ?_ _)) | go_size))
  have hz2 := hb2.size
  (try simp at hz2)
  clear hb2
  go_wp2
  go_ret
  exact ⟨rfl, by (repeat' (first | (with_reducible (first | exact Below.refl _ _ | assumption | refine below_drewN ?_ _ | refine Below.drew ?_ | refine Below.alloc ?_ ?_ _ | refine Below.setCell ?_ ?_ _)) | go_size))⟩
/-- A number out of bytes, the highest one first. -/
def hor (l : List Int) : Nat → Int
  | 0 => 0
  | k + 1 => hor l k * 256 + l.getD k 0
theorem hor_rng {l : List Int} (h : Byt l) (k : Nat) : 0 ≤ hor l k ∧ hor l k ≤ 256 ^ k - 1 := by
  induction k with
  | zero => simp [hor]
  | succ k ih =>
    have := h.get k
    have e : (256 : Int) ^ (k + 1) = 256 ^ k * 256 := Int.pow_succ ..
    unfold hor; rw [e]; omega
theorem bor8 {x y : Int} (h0 : 0 ≤ x) (h1 : x < 16777216) (h2 : 0 ≤ y) (h3 : y ≤ 255) : bits BinOp.or IntKind.u32 (x * 256) y = x * 256 + y :=
  bits_join .u32 32 (by decide) (fun n h0 h1 => by rw [IntKind.wrap_u32]; omega) 8 _ _ (by omega) (by show _ % 256 = _; omega) (by show _ < (4294967296 : Int); omega) h2 (by show _ < (256 : Int); omega) (by show _ < (4294967296 : Int); omega)
theorem hor_small {l : List Int} (h : Byt l) (k : Nat) (hk : k ≤ 3) : 0 ≤ hor l k ∧ hor l k < 16777216 := by
  have := hor_rng h k
  have : k = 0 ∨ k = 1 ∨ k = 2 ∨ k = 3 := by omega
  rcases this with rfl | rfl | rfl | rfl <;> omega
set_option maxHeartbeats 1000000 in
theorem ipJoin (xs : List Int) (B n : Nat) (w : World) (hx : Byt xs) (hn : xs.length = n) (h4 : n ≤ 4) (r : Int) (hr : hor xs n = r) (hc : ∀ i, i < n → w.cell? ⟨B, i, none⟩ = some (.int .u8 (xs.getD i 0))) :
    Calls Try.prog 63 #[.slice (some ⟨B, 0, none⟩) n n] w fun e w' => e = .returned (.int .u32 r) ∧ w = w' := by
  have Hr := hide hr; have Hx := hide hx; have Hc := hide hc; have Hn := hide hn
  clear hr hx hc hn
  go_enter Try.func63, Try.ntmps63
  go_wp2
  go_loop [3, 8] (fun t i => ∃ k : Nat, k ≤ n ∧ i = .int .i64 k ∧ ∃ c, t = .int .u32 c ∧ Hid (hor xs k = c)) (fun _ i => n - (intOf i).toNat)
  case atStart => exact ⟨0, Nat.zero_le _, rfl, 0, rfl, rfl⟩
  case round =>
    obtain ⟨k, hk, rfl, c, rfl, hcc⟩ := hrel
    by_cases hlt : k < n
    · have hs := hor_small Hx.out k (by omega)
      rw [hcc.out] at hs
      obtain ⟨z, hz⟩ : ∃ z, xs.getD k 0 = z := ⟨_, rfl⟩
      have hzr := Hx.out.get k
      have hcell := Hc.out k hlt
      have hnx : hor xs (k + 1) = c * 256 + z := by show hor xs k * 256 + xs.getD k 0 = _; rw [hcc.out, hz]
      have hN := hide hnx
      rw [hz] at hzr hcell
      have hb := bor8 hs.1 hs.2 hzr.1 hzr.2
      clear hz hnx hcc
      go_wp2
      go_round
      case rel => exact ⟨k + 1, by omega, by go_num, _, rfl, hN⟩
      case measure => simp [intOf]; omega
    · obtain rfl : k = n := by omega
      have hres : c = r := hcc.out.symm.trans Hr.out
      clear hcc
      go_wp2
      go_ret
      subst hres
      exact ⟨rfl, rfl⟩
/-- A number as so many bytes. -/
def blr : Nat → Int → List Int → List Int
  | 0, _, o => o
  | m + 1, v, o => blr m (v / 256) ((v % 256) :: o)
end Go.Proofs.Ytljpiofpfankoaa
