/-
  Captures: capture.number, prefixes. Conditions: strings that are not too long.
-/
import Derived.Test.YtljpiofpfankoaaCpA
import Derived.Lib.ConvBytes
import Derived.Deep.OwnRows
namespace Go.Proofs.Ytljpiofpfankoaa
open Go.RowKit Go.Sort
set_option linter.unusedVariables false
set_option linter.unusedSimpArgs false
theorem lset_self (l : List Int) (i : Nat) (v : Int) (h : i < l.length) : (l.set i v).getD i 0 = v := by simp [List.getD_eq_getElem?_getD, h]
theorem lset_off (l : List Int) (i k : Nat) (v : Int) (h : i ≠ k) : (l.set i v).getD k 0 = l.getD k 0 := by simp [List.getD_eq_getElem?_getD, List.getElem?_set_ne h]
/-- A block that holds these bytes first. -/
structure Byts (w : World) (B : Nat) (l : List Int) : Prop where
  lt : B < w.heap.size
  cell : ∀ i, i < l.length → w.cell? ⟨B, i, none⟩ = some (.int .u8 (l.getD i 0))
  frozen : ∀ i, i < l.length → w.frozen? ⟨B, i, none⟩ = false
theorem Byts.set {w : World} {B : Nat} {l : List Int} (h : Byts w B l) {k : Nat} (hk : k < l.length) (x : Int) : Byts (w.setCell ⟨B, k, none⟩ (.int .u8 x)) B (l.set k x) := by
  have hc := h.cell k hk
  refine ⟨by have := h.lt; simpa using this, fun i hi => ?_, fun i hi => ?_⟩
  · rw [List.length_set] at hi
    by_cases e : k = i
    · subst e
      rw [lset_self l k x hk]
      exact World.cell?_setCell_same _ _ _ hc
    · rw [lset_off l k i x e, World.cell?_setCell_other _ _ _ _ (by intro q; cases q; exact e rfl)]
      exact h.cell i hi
  · rw [List.length_set] at hi
    rw [World.frozen?_setCell]; exact h.frozen i hi
theorem Byts.drew {w : World} {B : Nat} {l : List Int} (h : Byts w B l) : Byts w.drew B l := ⟨h.lt, h.cell, h.frozen⟩
theorem conv_bytes {w : World} {B : Nat} {l : List Int} (h : Byts w B l) (c : Nat) : (convert 73 9 (.slice (some ⟨B, 0, none⟩) l.length c)).run Try.prog w = .ok (SV l) w :=
  run_convert_bytes_arg (P := Try.prog) w 73 5 Try.underlying73 Try.underlying5 B 0 l.length c l rfl (fun i hi => by rw [Nat.zero_add]; exact h.cell i hi) 9 Try.underlying9
theorem made_get (n i : Nat) (h : i < n) : (madeCells #[.int .u8 0] n)[i]? = some (.int .u8 0) := by
  unfold madeCells
  rw [Array.getElem?_map]
  have : (Array.range n)[i]? = some i := by simp [h]
  rw [this]
  simp [Nat.mod_one]
theorem made_byts (w : World) (n : Nat) : Byts (w.alloc (.cells (madeCells #[.int .u8 0] n) 5)) w.heap.size (List.replicate n 0) := by
  have hB : Blk (w.alloc (.cells (madeCells #[.int .u8 0] n) 5)) w.heap.size (madeCells #[.int .u8 0] n) 5 := Blk.alloc_new _ _ _ rfl
  refine ⟨hB.size, fun i hi => ?_, fun i hi => hB.frozen i⟩
  rw [List.length_replicate] at hi
  rw [hB.cell, made_get n i hi]
  have : (List.replicate n (0 : Int)).getD i 0 = 0 := by simp [List.getD_eq_getElem?_getD, hi]
  rw [this]
theorem set_rep (m : Nat) (L : List Int) (x : Int) : (List.replicate (m + 1) 0 ++ L).set m x = List.replicate m 0 ++ x :: L := by
  rw [show List.replicate (m + 1) (0 : Int) = List.replicate m 0 ++ [0] from List.replicate_succ', List.append_assoc, List.set_append_right _ _ (by simp)]
  simp
set_option maxHeartbeats 1000000 in
theorem ccNumber (v N : Int) (n : Nat) (R : List Int) (w : World) (hN0 : N = (n : Int)) (hv : 0 ≤ v ∧ v ≤ 18446744073709551615) (hn : n ≤ 8) (hR : blr n v [] = R) :
    Calls Try.prog 41 #[.int .u64 v, .int .i64 N] w fun e w' => e = .returned (SV R) ∧ Below w.heap.size w w' := by
  subst hN0
  have HR := hide hR; clear hR
  have hmk : ∀ v : World, (Instr.makeSlice 73 (.int .i64 (n : Int)) (.int .i64 (n : Int))).run Try.prog v = .ok (.slice (some ⟨v.heap.size, 0, none⟩) n n) (v.alloc (.cells (madeCells #[.int .u8 0] n) 5)) := fun v =>
    run_make_row' 73 5 (.int .u8 0) 1 Try.underlying73 (by kernel_rfl) rfl .i64 .i64 n (by omega) (by omega) v
  go_enter Try.func41, Try.ntmps41
  go_upto_region 2 with (fail)
  refine wp_forget (fun v => Below w.heap.size w v ∧ Byts v w.heap.size (List.replicate n 0)) ⟨by (repeat' (first | (with_reducible (first | exact Below.refl _ _ | assumption | refine below_drewN ?_ _ | refine Below.drew ?_ | refine Below.alloc ?_ ?_ _ | refine Below.setCell ?_ ?_ _)) | go_size)), made_byts w n⟩ ?_
  rintro w1 ⟨g1, B1⟩
  have hz1 := g1.size
  go_wp2
  go_loopw [0, 11] (fun t i wr => ∃ (k : Nat) (c : Int) (L : List Int), k ≤ n ∧ i = .int .i64 k ∧ t = .int .u64 c ∧ (0 ≤ c ∧ c ≤ 18446744073709551615) ∧ L.length = k ∧ Below w.heap.size w wr ∧ Byts wr w.heap.size (List.replicate (n - k) 0 ++ L) ∧ Hid (blr (n - k) c L = R)) (fun _ i _ => n - (intOf i).toNat)
  case atStart => exact ⟨0, v, [], Nat.zero_le _, rfl, rfl, hv, rfl, by (repeat' (first | (with_reducible (first | exact Below.refl _ _ | assumption | refine below_drewN ?_ _ | refine Below.drew ?_ | refine Below.alloc ?_ ?_ _ | refine Below.setCell ?_ ?_ _)) | go_size)), by simpa using B1, HR⟩
  case round =>
    obtain ⟨k, c, L, hk, rfl, rfl, hc, hl, g0, B0, hcc⟩ := hrel
    have hl0 := g0.size
    by_cases hlt : k < n
    · obtain ⟨m, hm⟩ : ∃ m : Nat, n - k = m + 1 := ⟨n - k - 1, by omega⟩
      rw [hm] at B0 hcc
      have hlen : m < (List.replicate (m + 1) (0 : Int) ++ L).length := by simp; omega
      have hB2 := B0.set hlen (c % 256)
      rw [set_rep] at hB2
      have hcell := B0.cell m hlen
      have hfro := B0.frozen m hlen
      have hN : Hid (blr m (c / 256) ((c % 256) :: L) = R) := hcc.out
      have e1 : (n : Int) - 1 - (k : Int) = (m : Int) := by omega
      have e2 : (m : Int).toNat = m := Int.toNat_natCast m
      have e3 : (m : Int) < (n : Int) := by omega
      have e4 : m < n := by omega
      clear hcc
      go_wp2
      go_roundw
      case rel => exact ⟨k + 1, c / 256, (c % 256) :: L, by omega, by go_num, rfl, by omega, by simp [hl], by (repeat' (first | (with_reducible (first | exact Below.refl _ _ | assumption | refine below_drewN ?_ _ | refine Below.drew ?_ | refine Below.alloc ?_ ?_ _ | refine Below.setCell ?_ ?_ _)) | go_size)), by rw [show n - (k + 1) = m by omega]; exact hB2, by rw [show n - (k + 1) = m by omega]; exact hN⟩
      case measure => simp [intOf]; omega
    · obtain rfl : k = n := by omega
      have hres : L = R := by have := hcc.out; rw [Nat.sub_self] at this; exact this
      have hB2 : Byts wr w.heap.size L := by have := B0; rw [Nat.sub_self] at this; exact this
      have hcv := conv_bytes hB2 k
      rw [hl] at hcv
      clear hcc
      go_wp2
      go_ret
      subst hres
      exact ⟨rfl, by (repeat' (first | (with_reducible (first | exact Below.refl _ _ | assumption | refine below_drewN ?_ _ | refine Below.drew ?_ | refine Below.alloc ?_ ?_ _ | refine Below.setCell ?_ ?_ _)) | go_size))⟩
end Go.Proofs.Ytljpiofpfankoaa
