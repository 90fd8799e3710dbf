/-
  The plain law of packets: the packet of a packet's bytes, the bytes of a packet of bytes. Conditions: fields in range.
-/
import Derived.Test.YtapikbgloagnkaaPackS
namespace Go.Proofs.Ytapikbgloagnkaa
open Go.RowKit
set_option linter.unusedVariables false

def u8of (n : Int) : UInt8 := UInt8.ofNat n.toNat
theorem u8bt (v : Int) (k : Nat) : ((u8of (bt v k)).toNat : Int) = bt v k := by
  have := bt_rng v k
  unfold u8of
  rw [UInt8.toNat_ofNat']
  omega
theorem nB_list (xs : List Int) (a b : Nat) : nB (strOfNums xs) a b = numB (((xs.map u8of).drop a).take (b - a)) := by
  unfold nB
  have e : ((strOfNums xs).extract a b).data.toList = ((xs.map u8of).drop a).take (b - a) := by
    simp [strOfNums, ByteArray.data_extract]
    rfl
  rw [e]
theorem numB8 (v : Int) (h : 0 ≤ v ∧ v ≤ 18446744073709551615) : numB [u8of (bt v 7), u8of (bt v 6), u8of (bt v 5), u8of (bt v 4), u8of (bt v 3), u8of (bt v 2), u8of (bt v 1), u8of (bt v 0)] = v := by
  simp only [numB, List.foldl, u8bt]
  simp [bt]
  omega
theorem numB2 (v : Int) (h : 0 ≤ v ∧ v ≤ 65535) : numB [u8of (bt v 1), u8of (bt v 0)] = v := by
  simp only [numB, List.foldl, u8bt]
  simp [bt]
  omega
theorem nB_id (id len h0 h1 h2 h3 : Int) (h : 0 ≤ id ∧ id ≤ 18446744073709551615) : nB (strOfNums (l18 id len h0 h1 h2 h3)) 0 8 = id := by rw [nB_list]; exact numB8 id h
theorem nB_len (id len h0 h1 h2 h3 : Int) (h : 0 ≤ len ∧ len ≤ 65535) : nB (strOfNums (l18 id len h0 h1 h2 h3)) 8 10 = len := by rw [nB_list]; exact numB2 len h
theorem nB_h0 (id len h0 h1 h2 h3 : Int) (h : 0 ≤ h0 ∧ h0 ≤ 65535) : nB (strOfNums (l18 id len h0 h1 h2 h3)) 10 12 = h0 := by rw [nB_list]; exact numB2 h0 h
theorem nB_h1 (id len h0 h1 h2 h3 : Int) (h : 0 ≤ h1 ∧ h1 ≤ 65535) : nB (strOfNums (l18 id len h0 h1 h2 h3)) 12 14 = h1 := by rw [nB_list]; exact numB2 h1 h
theorem nB_h2 (id len h0 h1 h2 h3 : Int) (h : 0 ≤ h2 ∧ h2 ≤ 65535) : nB (strOfNums (l18 id len h0 h1 h2 h3)) 14 16 = h2 := by rw [nB_list]; exact numB2 h2 h
theorem nB_h3 (id len h0 h1 h2 h3 : Int) (h : 0 ≤ h3 ∧ h3 ≤ 65535) : nB (strOfNums (l18 id len h0 h1 h2 h3)) 16 18 = h3 := by rw [nB_list]; exact numB2 h3 h
theorem dec_enc (id len h0 h1 h2 h3 : Int) (w : World) (hid : 0 ≤ id ∧ id ≤ 18446744073709551615) (hlen : 1 ≤ len ∧ len ≤ 16384) (q0 : 0 ≤ h0 ∧ h0 ≤ 65535) (q1 : 0 ≤ h1 ∧ h1 ≤ 65535) (q2 : 0 ≤ h2 ∧ h2 ≤ 65535) (q3 : 0 ≤ h3 ∧ h3 ≤ 65535) :
    Calls Try.prog 29 #[.string (strOfNums (l18 id len h0 h1 h2 h3))] w fun e w' => e = .returned (.tuple #[pkt id len h0 h1 h2 h3, .int .i64 0]) ∧ Below w.heap.size w w' := by
  have hs : (strOfNums (l18 id len h0 h1 h2 h3)).size = 18 := by rw [strOfNums_size]; rfl
  have e1 := nB_len id len h0 h1 h2 h3 (by omega)
  have := decode_ok (strOfNums (l18 id len h0 h1 h2 h3)) w (by omega) (by omega) (by rw [e1]; exact hlen)
  rw [nB_id _ _ _ _ _ _ hid, e1, nB_h0 _ _ _ _ _ _ q0, nB_h1 _ _ _ _ _ _ q1, nB_h2 _ _ _ _ _ _ q2, nB_h3 _ _ _ _ _ _ q3] at this
  exact this
/-! Two packets that are one. -/
theorem eq_pkt (v : World) (id len h0 h1 h2 h3 : Int) : (binOp .eql 42 (pkt id len h0 h1 h2 h3) (pkt id len h0 h1 h2 h3)).run Try.prog v = .ok (.bool true) v := by
  have hh := fun (d : Nat) (w : World) => run_equalIn_arr4 Try.prog w d 40 38 .u16 Try.underlying40 Try.underlying38 (fun _ => by kernel_rfl) (fun _ => by kernel_rfl) h0 h1 h2 h3 h0 h1 h2 h3
  simp only [beq_self_eq_true, Bool.and_self] at hh
  have h2 : ∀ w, (Op.equalIn 9999 40 (.agg #[.int .u16 h0, .int .u16 h1, .int .u16 h2, .int .u16 h3]) (.agg #[.int .u16 h0, .int .u16 h1, .int .u16 h2, .int .u16 h3])).run Try.prog w = .ok true w := fun w => hh 9997 w
  have ha : ∀ w, (isAgg 40).run Try.prog w = .ok true w := fun _ => by kernel_rfl
  have hs : ∀ w, (sizeOf 40).run Try.prog w = .ok 4 w := fun _ => by kernel_rfl
  clear hh
  rw [run_eql_struct, run_equalIn_struct _ 9999 42 _ _ (by kernel_rfl) (by kernel_rfl)]
  simp [Program.fieldsOf, Try.underlying42, go_sem, part, ha, hs, h2]
end Go.Proofs.Ytapikbgloagnkaa
