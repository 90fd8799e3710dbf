/-
  The walk of the reference's Encode, and the plain law: bytes of a packet, and the packet of bytes. Conditions: fields in range.
-/
import Derived.Test.YtapikbgloagnkaaPackR
import Derived.Test.YtapikbgloagnkaaPackO
import Derived.Test.YtapikbgloagnkaaEq
namespace Go.Proofs.Ytapikbgloagnkaa
open Go.RowKit
set_option linter.unusedVariables false

theorem rB8 (v : Int) (w : World) (hv : 0 ≤ v ∧ v ≤ 18446744073709551615) :
    Calls Try.prog 54 #[.int .u64 v, .int .i64 8] w fun e w' => e = .returned (.string (strOfNums (bsL v 8))) ∧ Below w.heap.size w w' := rBytes_any v 8 w hv (by omega)
theorem rB2 (v : Int) (w : World) (hv : 0 ≤ v ∧ v ≤ 65535) :
    Calls Try.prog 54 #[.int .u64 v, .int .i64 2] w fun e w' => e = .returned (.string (strOfNums (bsL v 2))) ∧ Below w.heap.size w w' := rBytes_any v 2 w (by omega) (by omega)
theorem sz8 (v : Int) : (strOfNums (bsL v 8)).size ≤ 8 := by rw [strOfNums_size, bsL_len]; exact Nat.le_refl _
theorem sz2 (v : Int) : (strOfNums (bsL v 2)).size ≤ 2 := by rw [strOfNums_size, bsL_len]; exact Nat.le_refl _
theorem enc_join (id len h0 h1 h2 h3 : Int) : strOfNums (bsL id 8) ++ strOfNums (bsL len 2) ++ strOfNums (bsL h0 2) ++ strOfNums (bsL h1 2) ++ strOfNums (bsL h2 2) ++ strOfNums (bsL h3 2) = strOfNums (l18 id len h0 h1 h2 h3) := by
  simp only [sn_app]; rfl
set_option maxRecDepth 100000 in
set_option maxHeartbeats 1000000 in
theorem rEncode (id len h0 h1 h2 h3 : Int) (w : World) (hid : 0 ≤ id ∧ id ≤ 18446744073709551615) (hlen : 1 ≤ len ∧ len ≤ 16384) (q0 : 0 ≤ h0 ∧ h0 ≤ 65535) (q1 : 0 ≤ h1 ∧ h1 ≤ 65535) (q2 : 0 ≤ h2 ∧ h2 ≤ 65535) (q3 : 0 ≤ h3 ∧ h3 ≤ 65535) :
    Calls Try.prog 30 #[pkt id len h0 h1 h2 h3] w fun e w' => e = .returned (.string (strOfNums (l18 id len h0 h1 h2 h3))) ∧ Below w.heap.size w w' := by
  have hwl : IntKind.u64.wrap len = len := IntWalk.u64_in len ⟨by omega, by omega⟩
  have s0 := sz8 id; have s1 := sz2 len; have s2 := sz2 h0; have s3 := sz2 h1; have s4 := sz2 h2; have s5 := sz2 h3
  have z0 : (strOfNums (bsL id 8)).size + (strOfNums (bsL len 2)).size ≤ 9223372036854775807 := by omega
  have hadd : ∀ v, (Op.stringOp .add (strOfNums (bsL id 8)) (strOfNums (bsL len 2))).run Try.prog v = .ok (.string (strOfNums (bsL id 8) ++ strOfNums (bsL len 2))) v := fun v => run_string_add_sum v _ _ z0
  have hj := hide (enc_join id len h0 h1 h2 h3)
  go_enter Try.func30, Try.ntmps30
  go_wp2_with fail
  go_region_held3 (fun v => (∀ i, v.cell? ⟨w.heap.size, i, none⟩ = #[.int .u64 id, .int .i64 len, .int .u16 h0, .int .u16 h1, .int .u16 h2, .int .u16 h3][i]?) ∧ w.heap.size < v.heap.size ∧ Blk v (w.heap.size) #[.int .u64 id, .int .i64 len, .int .u16 h0, .int .u16 h1, .int .u16 h2, .int .u16 h3] 42 ∧ Below w.heap.size w v)
    (first
      | (refine ⟨?_, ?_, ?_, ?_⟩ <;> first | (with_reducible assumption) | ((repeat' (first | (with_reducible assumption) | (with_reducible exact Blk.alloc_new _ _ _ (by first | rfl | (simp; done) | omega)) | (with_reducible refine Blk.drewN ?_ _) | (with_reducible refine Blk.drew ?_) | (with_reducible refine Blk.alloc_old ?_ _) | (with_reducible apply Blk.set_same) | (with_reducible refine Blk.set_other ?_ (by first | omega | (simp; done) | (simp; omega)) _) | (exact rfl))); done) | ((repeat' (first | (with_reducible exact Below.refl _ _) | (with_reducible assumption) | (with_reducible refine below_drewN ?_ _) | (with_reducible refine Below.drew ?_) | (with_reducible refine Below.alloc ?_ ?_ _) | (with_reducible refine Below.setCell ?_ ?_ _) | go_size)); done) | omega | (go_simp; done) | (simp; done) | (exact Blk.cell (by (repeat' (first | (with_reducible assumption) | (with_reducible exact Blk.alloc_new _ _ _ (by first | rfl | (simp; done) | omega)) | (with_reducible refine Blk.drewN ?_ _) | (with_reducible refine Blk.drew ?_) | (with_reducible refine Blk.alloc_old ?_ _) | (with_reducible apply Blk.set_same) | (with_reducible refine Blk.set_other ?_ (by first | omega | (simp; done) | (simp; omega)) _) | (exact rfl)))))))
    (first
      | (go_at_call 54; (with_reducible refine (rB8 id _ hid).mono ?_); rintro e w' ⟨rfl, hb'⟩; have hbx : Below w.heap.size w w' := (by refine Below.trans ?_ (Below.mono hb' ?_) <;> (repeat' (first | (with_reducible exact Below.refl _ _) | (with_reducible assumption) | (with_reducible refine below_drewN ?_ _) | (with_reducible refine Below.drew ?_) | (with_reducible refine Below.alloc ?_ ?_ _) | (with_reducible refine Below.setCell ?_ ?_ _) | go_size))); have hbs := hb'.size; (try simp at hbs); have hkA : Blk w' (w.heap.size) #[.int .u64 id, .int .i64 len, .int .u16 h0, .int .u16 h1, .int .u16 h2, .int .u16 h3] 42 := Blk.below (by (repeat' (first | (with_reducible assumption) | (with_reducible exact Blk.alloc_new _ _ _ (by first | rfl | (simp; done) | omega)) | (with_reducible refine Blk.drewN ?_ _) | (with_reducible refine Blk.drew ?_) | (with_reducible refine Blk.alloc_old ?_ _) | (with_reducible apply Blk.set_same) | (with_reducible refine Blk.set_other ?_ (by first | omega | (simp; done) | (simp; omega)) _) | (exact rfl)))) hb' (by first | (simp; done) | omega | (simp; omega)); have hqA := hkA.cell; have hzA := hkA.size; clear hb')
      | (go_at_call 54; (with_reducible refine (rB2 len _ (by omega)).mono ?_); rintro e w' ⟨rfl, hb'⟩; have hbx : Below w.heap.size w w' := (by refine Below.trans ?_ (Below.mono hb' ?_) <;> (repeat' (first | (with_reducible exact Below.refl _ _) | (with_reducible assumption) | (with_reducible refine below_drewN ?_ _) | (with_reducible refine Below.drew ?_) | (with_reducible refine Below.alloc ?_ ?_ _) | (with_reducible refine Below.setCell ?_ ?_ _) | go_size))); have hbs := hb'.size; (try simp at hbs); have hkA : Blk w' (w.heap.size) #[.int .u64 id, .int .i64 len, .int .u16 h0, .int .u16 h1, .int .u16 h2, .int .u16 h3] 42 := Blk.below (by (repeat' (first | (with_reducible assumption) | (with_reducible exact Blk.alloc_new _ _ _ (by first | rfl | (simp; done) | omega)) | (with_reducible refine Blk.drewN ?_ _) | (with_reducible refine Blk.drew ?_) | (with_reducible refine Blk.alloc_old ?_ _) | (with_reducible apply Blk.set_same) | (with_reducible refine Blk.set_other ?_ (by first | omega | (simp; done) | (simp; omega)) _) | (exact rfl)))) hb' (by first | (simp; done) | omega | (simp; omega)); have hqA := hkA.cell; have hzA := hkA.size; clear hb'))
  go_wp2
  refine wp_loop_rounds 5 ?_
  rw [rounds_succ]
  go_wp2_with fail
  refine (rB2 h0 _ q0).mono ?_
  rintro e w1 ⟨rfl, hb1⟩
  have A1 : Blk w1 (w.heap.size) #[.int .u64 id, .int .i64 len, .int .u16 h0, .int .u16 h1, .int .u16 h2, .int .u16 h3] 42 := Blk.below (by (repeat' (first | (with_reducible assumption) | (with_reducible exact Blk.alloc_new _ _ _ (by first | rfl | (simp; done) | omega)) | (with_reducible refine Blk.drewN ?_ _) | (with_reducible refine Blk.drew ?_) | (with_reducible refine Blk.alloc_old ?_ _) | (with_reducible apply Blk.set_same) | (with_reducible refine Blk.set_other ?_ (by first | omega | (simp; done) | (simp; omega)) _) | (exact rfl)))) hb1 (by first | (simp; done) | omega | (simp; omega))
  have g1 : Below w.heap.size w w1 := by refine Below.trans ?_ (hb1.mono ?_) <;> (repeat' (first | (with_reducible exact Below.refl _ _) | (with_reducible assumption) | (with_reducible refine below_drewN ?_ _) | (with_reducible refine Below.drew ?_) | (with_reducible refine Below.alloc ?_ ?_ _) | (with_reducible refine Below.setCell ?_ ?_ _) | go_size))
  have hz1 := hb1.size
  (try simp at hz1)
  clear hb1
  replace cA := A1.cell
  replace fA := A1.frozen
  replace zA := A1.size
  go_wp2
  rw [rounds_succ]
  go_wp2_with fail
  refine (rB2 h1 _ q1).mono ?_
  rintro e w2 ⟨rfl, hb2⟩
  have A2 : Blk w2 (w.heap.size) #[.int .u64 id, .int .i64 len, .int .u16 h0, .int .u16 h1, .int .u16 h2, .int .u16 h3] 42 := Blk.below (by (repeat' (first | (with_reducible assumption) | (with_reducible exact Blk.alloc_new _ _ _ (by first | rfl | (simp; done) | omega)) | (with_reducible refine Blk.drewN ?_ _) | (with_reducible refine Blk.drew ?_) | (with_reducible refine Blk.alloc_old ?_ _) | (with_reducible apply Blk.set_same) | (with_reducible refine Blk.set_other ?_ (by first | omega | (simp; done) | (simp; omega)) _) | (exact rfl)))) hb2 (by first | (simp; done) | omega | (simp; omega))
  have g2 : Below w.heap.size w w2 := by refine Below.trans ?_ (hb2.mono ?_) <;> (repeat' (first | (with_reducible exact Below.refl _ _) | (with_reducible assumption) | (with_reducible refine below_drewN ?_ _) | (with_reducible refine Below.drew ?_) | (with_reducible refine Below.alloc ?_ ?_ _) | (with_reducible refine Below.setCell ?_ ?_ _) | go_size))
  have hz2 := hb2.size
  (try simp at hz2)
  clear hb2
  replace cA := A2.cell
  replace fA := A2.frozen
  replace zA := A2.size
  go_wp2
  rw [rounds_succ]
  go_wp2_with fail
  refine (rB2 h2 _ q2).mono ?_
  rintro e w3 ⟨rfl, hb3⟩
  have A3 : Blk w3 (w.heap.size) #[.int .u64 id, .int .i64 len, .int .u16 h0, .int .u16 h1, .int .u16 h2, .int .u16 h3] 42 := Blk.below (by (repeat' (first | (with_reducible assumption) | (with_reducible exact Blk.alloc_new _ _ _ (by first | rfl | (simp; done) | omega)) | (with_reducible refine Blk.drewN ?_ _) | (with_reducible refine Blk.drew ?_) | (with_reducible refine Blk.alloc_old ?_ _) | (with_reducible apply Blk.set_same) | (with_reducible refine Blk.set_other ?_ (by first | omega | (simp; done) | (simp; omega)) _) | (exact rfl)))) hb3 (by first | (simp; done) | omega | (simp; omega))
  have g3 : Below w.heap.size w w3 := by refine Below.trans ?_ (hb3.mono ?_) <;> (repeat' (first | (with_reducible exact Below.refl _ _) | (with_reducible assumption) | (with_reducible refine below_drewN ?_ _) | (with_reducible refine Below.drew ?_) | (with_reducible refine Below.alloc ?_ ?_ _) | (with_reducible refine Below.setCell ?_ ?_ _) | go_size))
  have hz3 := hb3.size
  (try simp at hz3)
  clear hb3
  replace cA := A3.cell
  replace fA := A3.frozen
  replace zA := A3.size
  go_wp2
  rw [rounds_succ]
  go_wp2_with fail
  refine (rB2 h3 _ q3).mono ?_
  rintro e w4 ⟨rfl, hb4⟩
  have A4 : Blk w4 (w.heap.size) #[.int .u64 id, .int .i64 len, .int .u16 h0, .int .u16 h1, .int .u16 h2, .int .u16 h3] 42 := Blk.below (by (repeat' (first | (with_reducible assumption) | (with_reducible exact Blk.alloc_new _ _ _ (by first | rfl | (simp; done) | omega)) | (with_reducible refine Blk.drewN ?_ _) | (with_reducible refine Blk.drew ?_) | (with_reducible refine Blk.alloc_old ?_ _) | (with_reducible apply Blk.set_same) | (with_reducible refine Blk.set_other ?_ (by first | omega | (simp; done) | (simp; omega)) _) | (exact rfl)))) hb4 (by first | (simp; done) | omega | (simp; omega))
  have g4 : Below w.heap.size w w4 := by refine Below.trans ?_ (hb4.mono ?_) <;> (repeat' (first | (with_reducible exact Below.refl _ _) | (with_reducible assumption) | (with_reducible refine below_drewN ?_ _) | (with_reducible refine Below.drew ?_) | (with_reducible refine Below.alloc ?_ ?_ _) | (with_reducible refine Below.setCell ?_ ?_ _) | go_size))
  have hz4 := hb4.size
  (try simp at hz4)
  clear hb4
  replace cA := A4.cell
  replace fA := A4.frozen
  replace zA := A4.size
  go_wp2
  rw [rounds_succ]
  go_wp2
  go_ret
  exact ⟨ret1 (congrArg Value.string hj.out), by (repeat' (first | (with_reducible exact Below.refl _ _) | (with_reducible assumption) | (with_reducible refine below_drewN ?_ _) | (with_reducible refine Below.drew ?_) | (with_reducible refine Below.alloc ?_ ?_ _) | (with_reducible refine Below.setCell ?_ ?_ _) | go_size))⟩
end Go.Proofs.Ytapikbgloagnkaa
