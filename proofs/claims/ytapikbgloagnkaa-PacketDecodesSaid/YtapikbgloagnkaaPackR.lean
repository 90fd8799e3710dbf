/-
  The walks of the reference's Number and Bytes (packets). Conditions: numbers of 64 bits, at most eight bytes.
-/
import Derived.Test.YtapikbgloagnkaaPackE
import Derived.Laws.BytesArg
namespace Go.Proofs.Ytapikbgloagnkaa
open Go.RowKit
set_option linter.unusedVariables false

set_option maxHeartbeats 400000 in
theorem rNumber_any (s : ByteArray) (w : World) (hs : s.size ≤ 8) :
    Calls Try.prog 55 #[.string s] w fun e w' => e = .returned (.int .u64 (numB s.data.toList)) ∧ w = w' := by
  have hlen : s.data.toList.length = s.size := Array.length_toList
  have hfin := hide (show s.data.toList.take s.size = s.data.toList from List.take_of_length_le (by rw [hlen]; exact Nat.le_refl _))
  have hlen' := hide hlen; clear hlen
  go_enter Try.func55, Try.ntmps55
  go_wp2
  go_loop [3, 7] (fun t i => ∃ k : Nat, k ≤ s.size ∧ i = .int .i64 k ∧ t = .int .u64 (numB (s.data.toList.take k))) (fun _ i => s.size - (intOf i).toNat)
  case atStart => exact ⟨0, Nat.zero_le _, rfl, rfl⟩
  case round =>
    obtain ⟨k, hk, rfl, rfl⟩ := hrel
    by_cases hlt : k < s.size
    · have hr := numB_rng (s.data.toList.take k)
      rw [List.length_take, hlen'.out, Nat.min_eq_left hk] at hr
      have hp := pow_le8 (k := k) (by omega)
      have hr1 : 0 ≤ numB (s.data.toList.take k) := hr.1
      have hr2 : numB (s.data.toList.take k) < 72057594037927936 := by omega
      clear hr hp
      have hq : k < s.data.toList.length := by rw [hlen'.out]; exact hlt
      have hs1 := hide (show numB (s.data.toList.take (k + 1)) = numB (s.data.toList.take k) * 256 + (s[k].toNat : Int) by
        rw [List.take_succ_eq_append_getElem hq, numB_snoc]; rfl)
      have hc := s[k].toNat_lt
      go_wp2
      go_round
      case rel => exact ⟨k + 1, by omega, by go_num, by rw [hs1.out]⟩
      case measure => simp [intOf]; omega
    · obtain rfl : k = s.size := by omega
      go_wp2
      go_ret
      exact ⟨reti (by rw [hfin.out]), rfl⟩
/-- The lowest bytes of a number, the highest one first. -/
def bsL (v : Int) : Nat → List Int
  | 0 => []
  | k + 1 => bt v k :: bsL v k
theorem bsL_len (v : Int) (k : Nat) : (bsL v k).length = k := by induction k with
  | zero => rfl
  | succ k ih => simp [bsL, ih]
theorem conv88 (v : World) (B : Nat) (c : Int) (hB : B = v.heap.size) :
    (convert 88 9 (.slice (some ⟨B, 0, none⟩) 1 1)).run Try.prog (v.alloc (.cells #[.int .u8 c] 5)) = .ok (.string (strOfNums [c])) (v.alloc (.cells #[.int .u8 c] 5)) := by
  refine run_convert_bytes_arg _ _ _ Try.underlying88 Try.underlying5 B 0 1 1 [c] rfl ?_ _ Try.underlying9
  intro i hi
  have := (Blk.alloc_new v (B := B) #[.int .u8 c] 5 hB).cell
  rw [Nat.zero_add, this]
  obtain rfl : i = 0 := by omega
  rfl
theorem sn_app (xs ys : List Int) : strOfNums xs ++ strOfNums ys = strOfNums (xs ++ ys) := by
  apply ByteArray.ext; simp [strOfNums, ByteArray.data_append]
theorem bt_step (v : Int) (k : Nat) (hv : 0 ≤ v) : v / 2 ^ (8 * (k + 1)) = v / 2 ^ (8 * k) / 256 := by
  rw [show 8 * (k + 1) = 8 * k + 8 by omega, Int.pow_add, ← Int.ediv_ediv_of_nonneg (by exact Int.le_of_lt (Int.pow_pos (by omega)))]; rfl
/-- Behind k rounds of Bytes. -/
def BRel (w : World) (v : Int) (n : Nat) (x o i : Value) (wr : World) : Prop := ∃ k : Nat, k ≤ n ∧ i = .int .i64 k ∧ x = .int .u64 (v / 2 ^ (8 * k)) ∧ o = .string (strOfNums (bsL v k)) ∧ Below w.heap.size w wr
set_option maxHeartbeats 400000 in
theorem rBytes_any (v : Int) (n : Nat) (w : World) (hv : 0 ≤ v ∧ v ≤ 18446744073709551615) (hn : n ≤ 8) :
    Calls Try.prog 54 #[.int .u64 v, .int .i64 n] w fun e w' => e = .returned (.string (strOfNums (bsL v n))) ∧ Below w.heap.size w w' := by
  have kc := fun (v : World) (c : Int) => conv88 v v.heap.size c rfl
  go_enter Try.func54, Try.ntmps54
  go_wp2
  go_loopw [0, 5, 7] (fun x o i wr => BRel w v n x o i wr) (fun _ _ i _ => n - (intOf i).toNat)
  case atStart => exact ⟨0, Nat.zero_le _, rfl, by simp, rfl, by (repeat' (first | (with_reducible exact Below.refl _ _) | (with_reducible assumption) | (with_reducible refine below_drewN ?_ _) | (with_reducible refine Below.drew ?_) | (with_reducible refine Below.alloc ?_ ?_ _) | (with_reducible refine Below.setCell ?_ ?_ _) | go_size))⟩
  case round =>
    obtain ⟨k, hk, rfl, rfl, rfl, hb⟩ := hrel
    have hp : (0 : Int) < 2 ^ (8 * k) := Int.pow_pos (by omega)
    have hr1 : 0 ≤ v / 2 ^ (8 * k) := Int.ediv_nonneg hv.1 (by omega)
    have hr2 : v / 2 ^ (8 * k) ≤ v := Int.ediv_le_self _ hv.1
    have hs := hide (bt_step v k hv.1)
    have hb8 := hide (show bt v k = v / 2 ^ (8 * k) % 256 from rfl)
    have ha := hide (show strOfNums [bt v k] ++ strOfNums (bsL v k) = strOfNums (bsL v (k + 1)) by rw [sn_app]; rfl)
    clear hp
    by_cases hlt : k < n
    · generalize hx : v / 2 ^ (8 * k) = x at *
      have Hx := hide hx; clear hx
      have hbz := hb.size
      have hz : (strOfNums [x % 256]).size + (strOfNums (bsL v k)).size ≤ 9223372036854775807 := by rw [strOfNums_size, strOfNums_size, bsL_len]; simp; omega
      go_wp2
      go_roundw
      case rel => exact ⟨k + 1, by omega, by go_num, by rw [hs.out], by rw [← ha.out, hb8.out], by (repeat' (first | (with_reducible exact Below.refl _ _) | (with_reducible assumption) | (with_reducible refine below_drewN ?_ _) | (with_reducible refine Below.drew ?_) | (with_reducible refine Below.alloc ?_ ?_ _) | (with_reducible refine Below.setCell ?_ ?_ _) | go_size))⟩
      case measure => simp [intOf]; omega
    · obtain rfl : k = n := by omega
      go_wp2
      go_ret
      exact ⟨rfl, by (repeat' (first | (with_reducible exact Below.refl _ _) | (with_reducible assumption) | (with_reducible refine below_drewN ?_ _) | (with_reducible refine Below.drew ?_) | (with_reducible refine Below.alloc ?_ ?_ _) | (with_reducible refine Below.setCell ?_ ?_ _) | go_size))⟩
end Go.Proofs.Ytapikbgloagnkaa
