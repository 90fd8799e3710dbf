/-
  flow.key, flow.Key, flow.Packet, and the reference's Key: contracts in plain numbers. Conditions: numbers in range.
-/
import Derived.Test.YtljpiofpfankoaaFlA
import Derived.Test.YtljpiofpfankoaaIpN
import Derived.Test.YtljpiofpfankoaaGuarO
import Derived.Test.YtljpiofpfankoaaIpG
import Derived.Deep.CutRange
import Derived.Deep.DeepCutAuto
namespace Go.Proofs.Ytljpiofpfankoaa
open Go.RowKit Go.Sort
set_option linter.unusedVariables false
set_option linter.unusedSimpArgs false
/-- How the reference's xor stands behind k bits. -/
def XR (a b : Int) (k : Nat) (c B : Int) : Prop := B = ((2 ^ k : Nat) : Int) ∧ c = (((a.toNat ^^^ b.toNat) % 2 ^ k : Nat) : Int)
theorem XR.rng {a b c B : Int} {k : Nat} (h : XR a b k c B) (hk : k ≤ 16) : 1 ≤ B ∧ B ≤ 65536 ∧ 0 ≤ c ∧ c < B := by
  obtain ⟨rfl, rfl⟩ := h
  have h1 : 1 ≤ 2 ^ k := Nat.one_le_two_pow
  have h2 : 2 ^ k ≤ 2 ^ 16 := Nat.pow_le_pow_right (by decide) hk
  have h3 := Nat.mod_lt (a.toNat ^^^ b.toNat) (show 0 < 2 ^ k by omega)
  omega
theorem XR.next {a b c B : Int} {k : Nat} (h : XR a b k c B) (ha : 0 ≤ a) (hb : 0 ≤ b) : XR a b (k + 1) (if a / B % 2 ≠ b / B % 2 then c + B else c) (B * 2) := by
  obtain ⟨rfl, rfl⟩ := h
  refine ⟨by rw [Nat.pow_succ]; omega, ?_⟩
  rw [xbit]
  obtain ⟨m, rfl⟩ := Int.eq_ofNat_of_zero_le ha
  obtain ⟨n, rfl⟩ := Int.eq_ofNat_of_zero_le hb
  simp only [Int.toNat_natCast]
  have e : ((m : Int) / ((2 ^ k : Nat) : Int) % 2 ≠ (n : Int) / ((2 ^ k : Nat) : Int) % 2) ↔ (m / 2 ^ k % 2 ≠ n / 2 ^ k % 2) := by
    have e1 : (m : Int) / ((2 ^ k : Nat) : Int) = ((m / 2 ^ k : Nat) : Int) := by rw [Int.natCast_ediv]
    have e2 : (n : Int) / ((2 ^ k : Nat) : Int) = ((n / 2 ^ k : Nat) : Int) := by rw [Int.natCast_ediv]
    rw [e1, e2]; omega
  by_cases hd : m / 2 ^ k % 2 ≠ n / 2 ^ k % 2
  · rw [if_pos (e.2 hd), if_pos hd]; omega
  · rw [if_neg (fun h => hd (e.1 h)), if_neg hd]; omega
theorem XR.done {a b c B : Int} (h : XR a b 16 c B) (ha : 0 ≤ a ∧ a ≤ 65535) (hb : 0 ≤ b ∧ b ≤ 65535) : c = xN a b := by
  obtain ⟨rfl, rfl⟩ := h
  have := xN_16 ha hb
  unfold xN at *
  omega
set_option maxHeartbeats 1000000 in
theorem rxor (a b r : Int) (w : World) (ha : 0 ≤ a ∧ a ≤ 65535) (hb : 0 ≤ b ∧ b ≤ 65535) (hr : xN a b = r) :
    Calls Try.prog 53 #[.int .i64 a, .int .i64 b] w fun e w' => e = .returned (.int .i64 r) ∧ Below w.heap.size w w' := by
  have HR := hide hr; clear hr
  go_enter Try.func53, Try.ntmps53
  go_wp2
  go_loopw [5, 6, 7] (fun o bt i wr => ∃ (k : Nat) (c B : Int), k ≤ 16 ∧ i = .int .i64 k ∧ o = .int .i64 c ∧ bt = .int .i64 B ∧ Below w.heap.size w wr ∧ Hid (XR a b k c B)) (fun _ _ i _ => 16 - (intOf i).toNat)
  case atStart => exact ⟨0, 0, 1, Nat.zero_le _, rfl, rfl, rfl, by (repeat' (first | (with_reducible (first | exact Below.refl _ _ | assumption | refine below_drewN ?_ _ | refine Below.drew ?_ | refine Below.alloc ?_ ?_ _ | refine Below.setCell ?_ ?_ _)) | go_size)), ⟨rfl, by simp [Nat.mod_one]⟩⟩
  case round =>
    obtain ⟨k, c, B, hk, rfl, rfl, rfl, g0, hcc⟩ := hrel
    have hl0 := g0.size
    by_cases hlt : k < 16
    · obtain ⟨b1, b2, b3, b4⟩ := hcc.out.rng (by omega)
      have hnx := hcc.out.next ha.1 hb.1
      obtain ⟨qa, hqa⟩ : ∃ q, a / B = q := ⟨_, rfl⟩
      obtain ⟨qb, hqb⟩ : ∃ q, b / B = q := ⟨_, rfl⟩
      have hqa0 : 0 ≤ qa ∧ qa ≤ 65535 := by rw [← hqa]; exact ⟨Int.ediv_nonneg ha.1 (by omega), Int.le_trans (Int.ediv_le_self _ ha.1) ha.2⟩
      have hqb0 : 0 ≤ qb ∧ qb ≤ 65535 := by rw [← hqb]; exact ⟨Int.ediv_nonneg hb.1 (by omega), Int.le_trans (Int.ediv_le_self _ hb.1) hb.2⟩
      have t1 : a.tdiv B = qa := by rw [Int.tdiv_eq_ediv_of_nonneg ha.1]; exact hqa
      have t2 : b.tdiv B = qb := by rw [Int.tdiv_eq_ediv_of_nonneg hb.1]; exact hqb
      have t3 : qa.tmod 2 = qa % 2 := Int.tmod_eq_emod_of_nonneg hqa0.1
      have t4 : qb.tmod 2 = qb % 2 := Int.tmod_eq_emod_of_nonneg hqb0.1
      have u1 : IntKind.i64.wrap qa = qa := IntWalk.i64_in _ ⟨by omega, by omega⟩
      have u2 : IntKind.i64.wrap qb = qb := IntWalk.i64_in _ ⟨by omega, by omega⟩
      have u3 : IntKind.i64.wrap (qa % 2) = qa % 2 := IntWalk.i64_in _ ⟨by omega, by omega⟩
      have u4 : IntKind.i64.wrap (qb % 2) = qb % 2 := IntWalk.i64_in _ ⟨by omega, by omega⟩
      have hB0 : ¬ B = 0 := by omega
      rw [hqa, hqb] at hnx
      clear hqa hqb hcc
      obtain ⟨ra, hra⟩ : ∃ q, qa % 2 = q := ⟨_, rfl⟩
      obtain ⟨rb, hrb⟩ : ∃ q, qb % 2 = q := ⟨_, rfl⟩
      rw [hra] at t3 u3 hnx; rw [hrb] at t4 u4 hnx
      clear hra hrb
      by_cases hd : ra ≠ rb
      · rw [if_pos hd] at hnx
        have d1 : (ra != rb) = true := bne_iff_ne.2 hd
        have HN := hide hnx; clear hnx hd
        go_wp2_with fail
        refine wp_forget (fun v => Below w.heap.size w v) (by (repeat' (first | (with_reducible (first | exact Below.refl _ _ | assumption | refine below_drewN ?_ _ | refine Below.drew ?_ | refine Below.alloc ?_ ?_ _ | refine Below.setCell ?_ ?_ _)) | go_size))) ?_
        rintro v1 gv1
        refine wp_region_quiet_below (by kernel_rfl) (by kernel_rfl) ?_
        repeat (go_big_quiet_step ((first
            | fail)))
        refine wpQuiet_nil ?_
        intro _ hw'
        obtain ⟨pq, hw''⟩ := hw'
        subst hw''
        have hb1 := below_regrown v1 pq.d pq.os
        generalize Sort.grow (redrawn v1 pq.d) pq.os = w1 at *
        have g1 : Below w.heap.size w w1 := gv1.trans (hb1.mono gv1.size)
        have hz1 : w.heap.size ≤ w1.heap.size := g1.size
        clear hb1 gv1
        go_wp2
        go_roundw
        case rel => exact ⟨k + 1, c + B, B * 2, by omega, by go_num, rfl, rfl, by (repeat' (first | (with_reducible (first | exact Below.refl _ _ | assumption | refine below_drewN ?_ _ | refine Below.drew ?_ | refine Below.alloc ?_ ?_ _ | refine Below.setCell ?_ ?_ _)) | go_size)), HN⟩
        case measure => simp [intOf]; omega
      · rw [if_neg hd] at hnx
        have d1 : (ra != rb) = false := by simpa using hd
        have HN := hide hnx; clear hnx hd
        go_wp2_with fail
        refine wp_forget (fun v => Below w.heap.size w v) (by (repeat' (first | (with_reducible (first | exact Below.refl _ _ | assumption | refine below_drewN ?_ _ | refine Below.drew ?_ | refine Below.alloc ?_ ?_ _ | refine Below.setCell ?_ ?_ _)) | go_size))) ?_
        rintro v1 gv1
        refine wp_region_quiet_below (by kernel_rfl) (by kernel_rfl) ?_
        repeat (go_big_quiet_step ((first
            | fail)))
        refine wpQuiet_nil ?_
        intro _ hw'
        obtain ⟨pq, hw''⟩ := hw'
        subst hw''
        have hb1 := below_regrown v1 pq.d pq.os
        generalize Sort.grow (redrawn v1 pq.d) pq.os = w1 at *
        have g1 : Below w.heap.size w w1 := gv1.trans (hb1.mono gv1.size)
        have hz1 : w.heap.size ≤ w1.heap.size := g1.size
        clear hb1 gv1
        go_wp2
        go_roundw
        case rel => exact ⟨k + 1, c, B * 2, by omega, by go_num, rfl, rfl, by (repeat' (first | (with_reducible (first | exact Below.refl _ _ | assumption | refine below_drewN ?_ _ | refine Below.drew ?_ | refine Below.alloc ?_ ?_ _ | refine Below.setCell ?_ ?_ _)) | go_size)), HN⟩
        case measure => simp [intOf]; omega
    · obtain rfl : k = 16 := by omega
      have hres : c = r := (hcc.out.done ha hb).trans HR.out
      clear hcc
      go_wp2
      go_ret
      subst hres
      exact ⟨rfl, by (repeat' (first | (with_reducible (first | exact Below.refl _ _ | assumption | refine below_drewN ?_ _ | refine Below.drew ?_ | refine Below.alloc ?_ ?_ _ | refine Below.setCell ?_ ?_ _)) | go_size))⟩
set_option maxRecDepth 100000 in
set_option maxHeartbeats 4000000 in
theorem fkey_a (h : HD) (b : List Int) (k0 m k3 : Int) (w : World) (ok : h.ok) (hk0 : h.pr * 256 + h.tos / 4 = k0) (hm : xN h.src h.dst = m) (hk3 : xN (m / 65536) (m % 65536) = k3) (h1 : h.pr ≠ 6) (h2 : h.pr ≠ 17) :
    Calls Try.prog 48 #[.agg #[.int .u8 h.tos, .int .u16 h.id, .int .u8 h.fl, .int .u16 h.off, .int .u8 h.ttl, .int .u8 h.pr, .int .u32 h.src, .int .u32 h.dst, SV h.o], SV b] w fun e w' => e = .returned (.agg #[.int .u16 k0, .int .u16 0, .int .u16 0, .int .u16 k3]) ∧ Below w.heap.size w w' := by
  have ks := sv_size
  obtain ⟨o1, o2, o3, o4, o5, o6, o7, o8, o9⟩ := ok
  have hx1 : bits .xor .u32 h.src h.dst = m := (xor32 o7 o8).trans hm
  have hm0 : 0 ≤ m ∧ m ≤ 4294967295 := by rw [← hm]; exact xN_32 o7 o8
  have hx2 : bits .xor .u16 (m / 65536) (m % 65536) = k3 := (xor16 (by omega) (by omega)).trans hk3
  have hk0r : 0 ≤ k0 ∧ k0 ≤ 65535 := by omega
  have hsh : IntKind.u16.wrap (h.pr * 256) = h.pr * 256 := by simp [IntKind.wrap, IntKind.bits, IntKind.signed]; omega
  have hor0 : bits .or .u16 (h.pr * 256) (h.tos / 4) = k0 := by
    rw [← hk0]; exact bits_join .u16 16 (by decide) (fun n h0 h1 => by simp [IntKind.wrap, IntKind.bits, IntKind.signed]; omega) 8 _ _ (by omega) (by show _ % 256 = _; omega) (by show _ < (65536 : Int); omega) (by omega) (by show _ < (256 : Int); omega) (by show _ < (65536 : Int); omega)
  have hwm1 : IntKind.u16.wrap (m / 65536) = m / 65536 := by simp [IntKind.wrap, IntKind.bits, IntKind.signed]; omega
  have hwm2 : IntKind.u16.wrap m = m % 65536 := by simp [IntKind.wrap, IntKind.bits, IntKind.signed]
  clear hk0 hm hk3
  have d6 : (h.pr == 6) = false := by simp; omega
  have d17 : (h.pr == 17) = false := by simp; omega
  go_enter Try.func48, Try.ntmps48
  skip
  go_wp2
  refine bp_forget (fun v => Below w.heap.size w v ∧ Blk v (w.heap.size + 1) #[.int .u16 k0, .int .u16 0, .int .u16 0, .int .u16 k3] 48) ⟨by (repeat' (first | (with_reducible (first | exact Below.refl _ _ | assumption | refine below_drewN ?_ _ | refine Below.drew ?_ | refine Below.alloc ?_ ?_ _ | refine Below.setCell ?_ ?_ _)) | go_size)), by (repeat' (first | (with_reducible (first | assumption | exact Blk.alloc_new _ _ _ (by first | rfl | (simp; done) | omega) | apply Blk.drewN | apply Blk.drew | apply Blk.alloc_old | apply Blk.set_same | apply Blk.set_other)) | (show (_ : Nat) ≠ _; first | omega | (simp; done) | (simp; omega)) | ((simp only [List.setIfInBounds_toArray, List.set_cons_succ, List.set_cons_zero]); (with_reducible exact rfl)) | (with_reducible exact rfl) | (show (_ : Array Value) = _; exact rfl)))⟩ ?_
  rintro v ⟨gv, Bv⟩
  refine bodyPost_ret (v := .agg #[.int .u16 k0, .int .u16 0, .int .u16 0, .int .u16 k3]) ?_ ?_ ?_
  · exact results_blk (w.heap.size + 1) #[.int .u16 k0, .int .u16 0, .int .u16 0, .int .u16 k3] 48 _ _ _ Try.results48 (by rfl) Bv Try.underlying48 rfl (by kernel_rfl)
  · rfl
  · exact ⟨rfl, gv⟩
set_option maxRecDepth 100000 in
set_option maxHeartbeats 4000000 in
theorem fkey_b6 (h : HD) (b : List Int) (k0 m k3 : Int) (w : World) (ok : h.ok) (hk0 : h.pr * 256 + h.tos / 4 = k0) (hm : xN h.src h.dst = m) (hk3 : xN (m / 65536) (m % 65536) = k3) (h1 : h.pr = 6) (h2 : h.off ≠ 0) :
    Calls Try.prog 48 #[.agg #[.int .u8 h.tos, .int .u16 h.id, .int .u8 h.fl, .int .u16 h.off, .int .u8 h.ttl, .int .u8 h.pr, .int .u32 h.src, .int .u32 h.dst, SV h.o], SV b] w fun e w' => e = .returned (.agg #[.int .u16 k0, .int .u16 0, .int .u16 0, .int .u16 k3]) ∧ Below w.heap.size w w' := by
  have ks := sv_size
  obtain ⟨o1, o2, o3, o4, o5, o6, o7, o8, o9⟩ := ok
  have hx1 : bits .xor .u32 h.src h.dst = m := (xor32 o7 o8).trans hm
  have hm0 : 0 ≤ m ∧ m ≤ 4294967295 := by rw [← hm]; exact xN_32 o7 o8
  have hx2 : bits .xor .u16 (m / 65536) (m % 65536) = k3 := (xor16 (by omega) (by omega)).trans hk3
  have hk0r : 0 ≤ k0 ∧ k0 ≤ 65535 := by omega
  have hsh : IntKind.u16.wrap (h.pr * 256) = h.pr * 256 := by simp [IntKind.wrap, IntKind.bits, IntKind.signed]; omega
  have hor0 : bits .or .u16 (h.pr * 256) (h.tos / 4) = k0 := by
    rw [← hk0]; exact bits_join .u16 16 (by decide) (fun n h0 h1 => by simp [IntKind.wrap, IntKind.bits, IntKind.signed]; omega) 8 _ _ (by omega) (by show _ % 256 = _; omega) (by show _ < (65536 : Int); omega) (by omega) (by show _ < (256 : Int); omega) (by show _ < (65536 : Int); omega)
  have hwm1 : IntKind.u16.wrap (m / 65536) = m / 65536 := by simp [IntKind.wrap, IntKind.bits, IntKind.signed]; omega
  have hwm2 : IntKind.u16.wrap m = m % 65536 := by simp [IntKind.wrap, IntKind.bits, IntKind.signed]
  clear hk0 hm hk3
  have d6 : (h.pr == 6) = true := by simp; omega
  have d0 : (h.off == 0) = false := by simp; omega
  clear h1 h2
  go_enter Try.func48, Try.ntmps48
  skip
  go_wp2
  refine bp_forget (fun v => Below w.heap.size w v ∧ Blk v (w.heap.size + 1) #[.int .u16 k0, .int .u16 0, .int .u16 0, .int .u16 k3] 48) ⟨by (repeat' (first | (with_reducible (first | exact Below.refl _ _ | assumption | refine below_drewN ?_ _ | refine Below.drew ?_ | refine Below.alloc ?_ ?_ _ | refine Below.setCell ?_ ?_ _)) | go_size)), by (repeat' (first | (with_reducible (first | assumption | exact Blk.alloc_new _ _ _ (by first | rfl | (simp; done) | omega) | apply Blk.drewN | apply Blk.drew | apply Blk.alloc_old | apply Blk.set_same | apply Blk.set_other)) | (show (_ : Nat) ≠ _; first | omega | (simp; done) | (simp; omega)) | ((simp only [List.setIfInBounds_toArray, List.set_cons_succ, List.set_cons_zero]); (with_reducible exact rfl)) | (with_reducible exact rfl) | (show (_ : Array Value) = _; exact rfl)))⟩ ?_
  rintro v ⟨gv, Bv⟩
  refine bodyPost_ret (v := .agg #[.int .u16 k0, .int .u16 0, .int .u16 0, .int .u16 k3]) ?_ ?_ ?_
  · exact results_blk (w.heap.size + 1) #[.int .u16 k0, .int .u16 0, .int .u16 0, .int .u16 k3] 48 _ _ _ Try.results48 (by rfl) Bv Try.underlying48 rfl (by kernel_rfl)
  · rfl
  · exact ⟨rfl, gv⟩
set_option maxRecDepth 100000 in
set_option maxHeartbeats 4000000 in
theorem fkey_c6 (h : HD) (b : List Int) (k0 m k3 : Int) (w : World) (ok : h.ok) (hk0 : h.pr * 256 + h.tos / 4 = k0) (hm : xN h.src h.dst = m) (hk3 : xN (m / 65536) (m % 65536) = k3) (h1 : h.pr = 6) (h2 : h.off = 0) (h4 : b.length < 4) :
    Calls Try.prog 48 #[.agg #[.int .u8 h.tos, .int .u16 h.id, .int .u8 h.fl, .int .u16 h.off, .int .u8 h.ttl, .int .u8 h.pr, .int .u32 h.src, .int .u32 h.dst, SV h.o], SV b] w fun e w' => e = .returned (.agg #[.int .u16 k0, .int .u16 0, .int .u16 0, .int .u16 k3]) ∧ Below w.heap.size w w' := by
  have ks := sv_size
  obtain ⟨o1, o2, o3, o4, o5, o6, o7, o8, o9⟩ := ok
  have hx1 : bits .xor .u32 h.src h.dst = m := (xor32 o7 o8).trans hm
  have hm0 : 0 ≤ m ∧ m ≤ 4294967295 := by rw [← hm]; exact xN_32 o7 o8
  have hx2 : bits .xor .u16 (m / 65536) (m % 65536) = k3 := (xor16 (by omega) (by omega)).trans hk3
  have hk0r : 0 ≤ k0 ∧ k0 ≤ 65535 := by omega
  have hsh : IntKind.u16.wrap (h.pr * 256) = h.pr * 256 := by simp [IntKind.wrap, IntKind.bits, IntKind.signed]; omega
  have hor0 : bits .or .u16 (h.pr * 256) (h.tos / 4) = k0 := by
    rw [← hk0]; exact bits_join .u16 16 (by decide) (fun n h0 h1 => by simp [IntKind.wrap, IntKind.bits, IntKind.signed]; omega) 8 _ _ (by omega) (by show _ % 256 = _; omega) (by show _ < (65536 : Int); omega) (by omega) (by show _ < (256 : Int); omega) (by show _ < (65536 : Int); omega)
  have hwm1 : IntKind.u16.wrap (m / 65536) = m / 65536 := by simp [IntKind.wrap, IntKind.bits, IntKind.signed]; omega
  have hwm2 : IntKind.u16.wrap m = m % 65536 := by simp [IntKind.wrap, IntKind.bits, IntKind.signed]
  clear hk0 hm hk3
  have d6 : (h.pr == 6) = true := by simp; omega
  have d0 : (h.off == 0) = true := by simp; omega
  have d4 : decide (4 ≤ b.length) = false := decide_eq_false (by omega)
  have d4' : decide ((4 : Int) ≤ (b.length : Int)) = false := decide_eq_false (by omega)
  clear h1 h2
  go_enter Try.func48, Try.ntmps48
  skip
  go_wp2
  refine bp_forget (fun v => Below w.heap.size w v ∧ Blk v (w.heap.size + 1) #[.int .u16 k0, .int .u16 0, .int .u16 0, .int .u16 k3] 48) ⟨by (repeat' (first | (with_reducible (first | exact Below.refl _ _ | assumption | refine below_drewN ?_ _ | refine Below.drew ?_ | refine Below.alloc ?_ ?_ _ | refine Below.setCell ?_ ?_ _)) | go_size)), by (repeat' (first | (with_reducible (first | assumption | exact Blk.alloc_new _ _ _ (by first | rfl | (simp; done) | omega) | apply Blk.drewN | apply Blk.drew | apply Blk.alloc_old | apply Blk.set_same | apply Blk.set_other)) | (show (_ : Nat) ≠ _; first | omega | (simp; done) | (simp; omega)) | ((simp only [List.setIfInBounds_toArray, List.set_cons_succ, List.set_cons_zero]); (with_reducible exact rfl)) | (with_reducible exact rfl) | (show (_ : Array Value) = _; exact rfl)))⟩ ?_
  rintro v ⟨gv, Bv⟩
  refine bodyPost_ret (v := .agg #[.int .u16 k0, .int .u16 0, .int .u16 0, .int .u16 k3]) ?_ ?_ ?_
  · exact results_blk (w.heap.size + 1) #[.int .u16 k0, .int .u16 0, .int .u16 0, .int .u16 k3] 48 _ _ _ Try.results48 (by rfl) Bv Try.underlying48 rfl (by kernel_rfl)
  · rfl
  · exact ⟨rfl, gv⟩
set_option maxRecDepth 100000 in
set_option maxHeartbeats 4000000 in
theorem fkey_d6 (h : HD) (b : List Int) (k0 m k3 : Int) (w : World) (ok : h.ok) (hk0 : h.pr * 256 + h.tos / 4 = k0) (hm : xN h.src h.dst = m) (hk3 : xN (m / 65536) (m % 65536) = k3) (p1 p2 : Int) (hb : Byt b) (h1 : h.pr = 6) (h2 : h.off = 0) (h4 : 4 ≤ b.length) (hp1 : b.getD 0 0 * 256 + b.getD 1 0 = p1) (hp2 : b.getD 2 0 * 256 + b.getD 3 0 = p2) :
    Calls Try.prog 48 #[.agg #[.int .u8 h.tos, .int .u16 h.id, .int .u8 h.fl, .int .u16 h.off, .int .u8 h.ttl, .int .u8 h.pr, .int .u32 h.src, .int .u32 h.dst, SV h.o], SV b] w fun e w' => e = .returned (.agg #[.int .u16 k0, .int .u16 p1, .int .u16 p2, .int .u16 k3]) ∧ Below w.heap.size w w' := by
  have ks := sv_size
  obtain ⟨o1, o2, o3, o4, o5, o6, o7, o8, o9⟩ := ok
  have hx1 : bits .xor .u32 h.src h.dst = m := (xor32 o7 o8).trans hm
  have hm0 : 0 ≤ m ∧ m ≤ 4294967295 := by rw [← hm]; exact xN_32 o7 o8
  have hx2 : bits .xor .u16 (m / 65536) (m % 65536) = k3 := (xor16 (by omega) (by omega)).trans hk3
  have hk0r : 0 ≤ k0 ∧ k0 ≤ 65535 := by omega
  have hsh : IntKind.u16.wrap (h.pr * 256) = h.pr * 256 := by simp [IntKind.wrap, IntKind.bits, IntKind.signed]; omega
  have hor0 : bits .or .u16 (h.pr * 256) (h.tos / 4) = k0 := by
    rw [← hk0]; exact bits_join .u16 16 (by decide) (fun n h0 h1 => by simp [IntKind.wrap, IntKind.bits, IntKind.signed]; omega) 8 _ _ (by omega) (by show _ % 256 = _; omega) (by show _ < (65536 : Int); omega) (by omega) (by show _ < (256 : Int); omega) (by show _ < (65536 : Int); omega)
  have hwm1 : IntKind.u16.wrap (m / 65536) = m / 65536 := by simp [IntKind.wrap, IntKind.bits, IntKind.signed]; omega
  have hwm2 : IntKind.u16.wrap m = m % 65536 := by simp [IntKind.wrap, IntKind.bits, IntKind.signed]
  clear hk0 hm hk3
  have d6 : (h.pr == 6) = true := by simp; omega
  have d0 : (h.off == 0) = true := by simp; omega
  have d4 : decide (4 ≤ b.length) = true := decide_eq_true (by omega)
  have d4' : decide ((4 : Int) ≤ (b.length : Int)) = true := decide_eq_true (by omega)
  clear h1 h2
  obtain ⟨y0, hy0⟩ : ∃ x, b.getD 0 0 = x := ⟨_, rfl⟩
  have r0 := hb.get 0
  rw [hy0] at r0
  have ix0 : ∀ v, (Instr.index 9 (SV b) (.int .i64 0)).run Try.prog v = .ok (.int .u8 y0) v := fun v => sv_idx hb 0 y0 (by omega) hy0 v
  have w0s : IntKind.u16.wrap y0 = y0 := by simp [IntKind.wrap, IntKind.bits, IntKind.signed]; omega
  have wm0 : IntKind.u16.wrap (y0 * 256) = y0 * 256 := by simp [IntKind.wrap, IntKind.bits, IntKind.signed]; omega
  obtain ⟨y1, hy1⟩ : ∃ x, b.getD 1 0 = x := ⟨_, rfl⟩
  have r1 := hb.get 1
  rw [hy1] at r1
  have ix1 : ∀ v, (Instr.index 9 (SV b) (.int .i64 1)).run Try.prog v = .ok (.int .u8 y1) v := fun v => sv_idx hb 1 y1 (by omega) hy1 v
  have w1s : IntKind.u16.wrap y1 = y1 := by simp [IntKind.wrap, IntKind.bits, IntKind.signed]; omega
  have wm1 : IntKind.u16.wrap (y1 * 256) = y1 * 256 := by simp [IntKind.wrap, IntKind.bits, IntKind.signed]; omega
  obtain ⟨y2, hy2⟩ : ∃ x, b.getD 2 0 = x := ⟨_, rfl⟩
  have r2 := hb.get 2
  rw [hy2] at r2
  have ix2 : ∀ v, (Instr.index 9 (SV b) (.int .i64 2)).run Try.prog v = .ok (.int .u8 y2) v := fun v => sv_idx hb 2 y2 (by omega) hy2 v
  have w2s : IntKind.u16.wrap y2 = y2 := by simp [IntKind.wrap, IntKind.bits, IntKind.signed]; omega
  have wm2 : IntKind.u16.wrap (y2 * 256) = y2 * 256 := by simp [IntKind.wrap, IntKind.bits, IntKind.signed]; omega
  obtain ⟨y3, hy3⟩ : ∃ x, b.getD 3 0 = x := ⟨_, rfl⟩
  have r3 := hb.get 3
  rw [hy3] at r3
  have ix3 : ∀ v, (Instr.index 9 (SV b) (.int .i64 3)).run Try.prog v = .ok (.int .u8 y3) v := fun v => sv_idx hb 3 y3 (by omega) hy3 v
  have w3s : IntKind.u16.wrap y3 = y3 := by simp [IntKind.wrap, IntKind.bits, IntKind.signed]; omega
  have wm3 : IntKind.u16.wrap (y3 * 256) = y3 * 256 := by simp [IntKind.wrap, IntKind.bits, IntKind.signed]; omega
  rw [hy0, hy1] at hp1; rw [hy2, hy3] at hp2
  have hor1 : bits .or .u16 (y0 * 256) y1 = p1 := by rw [← hp1]; exact bits_join .u16 16 (by decide) (fun n h0 h1 => by simp [IntKind.wrap, IntKind.bits, IntKind.signed]; omega) 8 _ _ (by omega) (by show _ % 256 = _; omega) (by show _ < (65536 : Int); omega) (by omega) (by show _ < (256 : Int); omega) (by show _ < (65536 : Int); omega)
  have hor2 : bits .or .u16 (y2 * 256) y3 = p2 := by rw [← hp2]; exact bits_join .u16 16 (by decide) (fun n h0 h1 => by simp [IntKind.wrap, IntKind.bits, IntKind.signed]; omega) 8 _ _ (by omega) (by show _ % 256 = _; omega) (by show _ < (65536 : Int); omega) (by omega) (by show _ < (256 : Int); omega) (by show _ < (65536 : Int); omega)
  clear hy0 hy1 hy2 hy3 hp1 hp2
  go_enter Try.func48, Try.ntmps48
  go_upto_region 3 with (fail)
  refine wp_forget (fun v => Below w.heap.size w v ∧ Blk v (w.heap.size) #[.int .u8 h.tos, .int .u16 h.id, .int .u8 h.fl, .int .u16 h.off, .int .u8 h.ttl, .int .u8 h.pr, .int .u32 h.src, .int .u32 h.dst, SV h.o] 70 ∧ Blk v (w.heap.size + 1) #[.int .u16 0, .int .u16 0, .int .u16 0, .int .u16 0] 48 ∧ Blk v (w.heap.size + 1 + 1) #[.int .u16 k0, .int .u16 0, .int .u16 0, .int .u16 0] 48) ⟨by (repeat' (first | (with_reducible (first | exact Below.refl _ _ | assumption | refine below_drewN ?_ _ | refine Below.drew ?_ | refine Below.alloc ?_ ?_ _ | refine Below.setCell ?_ ?_ _)) | go_size)), by (repeat' (first | (with_reducible (first | assumption | exact Blk.alloc_new _ _ _ (by first | rfl | (simp; done) | omega) | apply Blk.drewN | apply Blk.drew | apply Blk.alloc_old | apply Blk.set_same | apply Blk.set_other)) | (show (_ : Nat) ≠ _; first | omega | (simp; done) | (simp; omega)) | ((simp only [List.setIfInBounds_toArray, List.set_cons_succ, List.set_cons_zero]); (with_reducible exact rfl)) | (with_reducible exact rfl) | (show (_ : Array Value) = _; exact rfl))), by (repeat' (first | (with_reducible (first | assumption | exact Blk.alloc_new _ _ _ (by first | rfl | (simp; done) | omega) | apply Blk.drewN | apply Blk.drew | apply Blk.alloc_old | apply Blk.set_same | apply Blk.set_other)) | (show (_ : Nat) ≠ _; first | omega | (simp; done) | (simp; omega)) | ((simp only [List.setIfInBounds_toArray, List.set_cons_succ, List.set_cons_zero]); (with_reducible exact rfl)) | (with_reducible exact rfl) | (show (_ : Array Value) = _; exact rfl))), by (repeat' (first | (with_reducible (first | assumption | exact Blk.alloc_new _ _ _ (by first | rfl | (simp; done) | omega) | apply Blk.drewN | apply Blk.drew | apply Blk.alloc_old | apply Blk.set_same | apply Blk.set_other)) | (show (_ : Nat) ≠ _; first | omega | (simp; done) | (simp; omega)) | ((simp only [List.setIfInBounds_toArray, List.set_cons_succ, List.set_cons_zero]); (with_reducible exact rfl)) | (with_reducible exact rfl) | (show (_ : Array Value) = _; exact rfl)))⟩ ?_
  rintro w1 ⟨g1, A1, R1, X1⟩
  have hz1 := g1.size
  replace cA := A1.cell
  replace fA := A1.frozen
  replace zA := A1.size
  replace cR := R1.cell
  replace fR := R1.frozen
  replace zR := R1.size
  replace cX := X1.cell
  replace fX := X1.frozen
  replace zX := X1.size
  go_cut [42] (fun s42 wx => s42 = .int .u16 p1 ∧ Below w.heap.size w wx ∧ Blk wx (w.heap.size) #[.int .u8 h.tos, .int .u16 h.id, .int .u8 h.fl, .int .u16 h.off, .int .u8 h.ttl, .int .u8 h.pr, .int .u32 h.src, .int .u32 h.dst, SV h.o] 70 ∧ Blk wx (w.heap.size + 1) #[.int .u16 0, .int .u16 0, .int .u16 0, .int .u16 0] 48 ∧ Blk wx (w.heap.size + 1 + 1) #[.int .u16 k0, .int .u16 p1, .int .u16 0, .int .u16 0] 48)
  case first =>
    refine wp_region_guarS (w.heap.size) (w.heap.size + 1 + 1 + 1) [(w.heap.size, #[.int .u8 h.tos, .int .u16 h.id, .int .u8 h.fl, .int .u16 h.off, .int .u8 h.ttl, .int .u8 h.pr, .int .u32 h.src, .int .u32 h.dst, SV h.o], 70), (w.heap.size + 1, #[.int .u16 0, .int .u16 0, .int .u16 0, .int .u16 0], 48)] [] [(w.heap.size + 1 + 1, #[.int .u16 k0, .int .u16 p1, .int .u16 0, .int .u16 0], 48)] [(w.heap.size + 1 + 1, 0, .int .u16 k0), (w.heap.size + 1 + 1, 1, .int .u16 p1), (w.heap.size + 1 + 1, 2, .int .u16 0), (w.heap.size + 1 + 1, 3, .int .u16 0)] [.val (SV b), .val (.int .u8 (y0)), .val (.int .u16 (y0)), .val (.int .u16 (y0 * 256)), .val (SV b), .val (.int .u8 (y1)), .val (.int .u16 (y1)), .val (.int .u16 (p1)), .val (.pointer (some ⟨w.heap.size + 1 + 1, 1, none⟩)), .sets [1]] (by kernel_rfl) (by kernel_rfl) (by omega) (by omega) (by intro f m; simp only [List.mem_cons, List.not_mem_nil, or_false, List.append_nil, List.nil_append, List.cons_append] at m; rcases m with rfl | rfl <;> ((show Blk _ _ _ _) <;> (repeat' (first | (with_reducible (first | assumption | exact Blk.alloc_new _ _ _ (by first | rfl | (simp; done) | omega) | apply Blk.drewN | apply Blk.drew | apply Blk.alloc_old | apply Blk.set_same | apply Blk.set_other)) | (show (_ : Nat) ≠ _; first | omega | (simp; done) | (simp; omega)) | ((simp only [List.setIfInBounds_toArray, List.set_cons_succ, List.set_cons_zero]); (with_reducible exact rfl)) | (with_reducible exact rfl) | (show (_ : Array Value) = _; exact rfl))))) (by intro f m; simp only [List.mem_cons, List.not_mem_nil, or_false, List.append_nil, List.nil_append, List.cons_append] at m; rcases m with rfl <;> (first | (exact ⟨#[.int .u16 k0, .int .u16 0, .int .u16 0, .int .u16 0], rfl, by (repeat' (first | (with_reducible (first | assumption | exact Blk.alloc_new _ _ _ (by first | rfl | (simp; done) | omega) | apply Blk.drewN | apply Blk.drew | apply Blk.alloc_old | apply Blk.set_same | apply Blk.set_other)) | (show (_ : Nat) ≠ _; first | omega | (simp; done) | (simp; omega)) | ((simp only [List.setIfInBounds_toArray, List.set_cons_succ, List.set_cons_zero]); (with_reducible exact rfl)) | (with_reducible exact rfl) | (show (_ : Array Value) = _; exact rfl)))⟩))) ?_ ?_
    · refine ⟨?_, ?_, ?_, ?_, ?_, ?_, ?_, ?_, ?_, ?_, trivial⟩
      · intro a v c
        have e1 : a.eval (.tmp 1) = SV b := (c.off 1 (by kernel_rfl)).trans rfl
        have f1 := (eval_opt a 1).trans e1
        exact gvalS (SV b) (by simp only [execOp, f1, e1]; go_simp) rfl
      · intro a v c
        have e35 : a.eval (.tmp 35) = SV b := c.dep 0 _ (by kernel_rfl) rfl
        have f35 := (eval_opt a 35).trans e35
        exact gvalS (.int .u8 (y0)) (by simp only [execOp, f35, e35]; go_simp) rfl
      · intro a v c
        have e36 : a.eval (.tmp 36) = .int .u8 (y0) := c.dep 1 _ (by kernel_rfl) rfl
        have f36 := (eval_opt a 36).trans e36
        exact gvalS (.int .u16 (y0)) (by simp only [execOp, f36, e36]; go_simp) rfl
      · intro a v c
        have e37 : a.eval (.tmp 37) = .int .u16 (y0) := c.dep 2 _ (by kernel_rfl) rfl
        have f37 := (eval_opt a 37).trans e37
        exact gvalS (.int .u16 (y0 * 256)) (by simp only [execOp, f37, e37]; go_simp) rfl
      · intro a v c
        have e1 : a.eval (.tmp 1) = SV b := (c.off 1 (by kernel_rfl)).trans rfl
        have f1 := (eval_opt a 1).trans e1
        exact gvalS (SV b) (by simp only [execOp, f1, e1]; go_simp) rfl
      · intro a v c
        have e39 : a.eval (.tmp 39) = SV b := c.dep 4 _ (by kernel_rfl) rfl
        have f39 := (eval_opt a 39).trans e39
        exact gvalS (.int .u8 (y1)) (by simp only [execOp, f39, e39]; go_simp) rfl
      · intro a v c
        have e40 : a.eval (.tmp 40) = .int .u8 (y1) := c.dep 5 _ (by kernel_rfl) rfl
        have f40 := (eval_opt a 40).trans e40
        exact gvalS (.int .u16 (y1)) (by simp only [execOp, f40, e40]; go_simp) rfl
      · intro a v c
        have e38 : a.eval (.tmp 38) = .int .u16 (y0 * 256) := c.dep 3 _ (by kernel_rfl) rfl
        have e41 : a.eval (.tmp 41) = .int .u16 (y1) := c.dep 6 _ (by kernel_rfl) rfl
        have f38 := (eval_opt a 38).trans e38
        have f41 := (eval_opt a 41).trans e41
        exact gvalS (.int .u16 (p1)) (by simp only [execOp, f38, f41, e38, e41]; go_simp) rfl
      · intro a v c
        have e5 : a.eval (.tmp 5) = .pointer (some ⟨w.heap.size + 1 + 1, 0, none⟩) := (c.off 5 (by kernel_rfl)).trans rfl
        have f5 := (eval_opt a 5).trans e5
        exact gvalS (.pointer (some ⟨w.heap.size + 1 + 1, 1, none⟩)) (by simp only [execOp, f5, e5]; go_simp) rfl
      · intro a v c
        have e43 : a.eval (.tmp 43) = .pointer (some ⟨w.heap.size + 1 + 1, 1, none⟩) := c.dep 8 _ (by kernel_rfl) rfl
        have e42 : a.eval (.tmp 42) = .int .u16 (p1) := c.dep 7 _ (by kernel_rfl) rfl
        exact gpartS [1] (w.heap.size + 1 + 1, #[.int .u16 k0, .int .u16 p1, .int .u16 0, .int .u16 0], 48) (w.heap.size + 1 + 1) 1 (.int .u16 p1) #[.int .u16 p1] 46 (.tmp 43) (.tmp 42) rfl e43 e42 rfl (c.room (w.heap.size + 1 + 1, #[.int .u16 k0, .int .u16 p1, .int .u16 0, .int .u16 0], 48) (by simp)) rfl (by simp) (by kernel_rfl) (by simp [Value.oneCell']) rfl (by intro q hq c hcq; simp only [List.mem_cons, List.not_mem_nil, or_false] at hq; rcases hq with rfl <;> (have hcq : some _ = some c := hcq; cases hcq; exact ⟨rfl, by simp, by simp⟩)) (by omega) (by omega) (by intro f m; simp only [List.mem_cons, List.not_mem_nil, or_false] at m; rcases m with rfl | rfl <;> ((show _ ≠ _) <;> (first | omega | (simp; omega)))) (fun _ h => absurd h (by simp)) (by intro c m e l1 l2; simp only [List.mem_cons, List.not_mem_nil, or_false] at m; rcases m with rfl | rfl | rfl | rfl <;> (first | rfl | (simp; done) | (exfalso; simp at l1; done) | (exfalso; simp at l2; done) | (exfalso; simp only at l1 l2; simp at l2; omega) | (exfalso; omega)))
    intro a v hb hF hRm hCl hd ho hs hf
    have e35 : a.eval (.tmp 35) = SV b := hd 0 _ rfl
    have e36 : a.eval (.tmp 36) = .int .u8 (y0) := hd 1 _ rfl
    have e37 : a.eval (.tmp 37) = .int .u16 (y0) := hd 2 _ rfl
    have e38 : a.eval (.tmp 38) = .int .u16 (y0 * 256) := hd 3 _ rfl
    have e39 : a.eval (.tmp 39) = SV b := hd 4 _ rfl
    have e40 : a.eval (.tmp 40) = .int .u8 (y1) := hd 5 _ rfl
    have e41 : a.eval (.tmp 41) = .int .u16 (y1) := hd 6 _ rfl
    have e42 : a.eval (.tmp 42) = .int .u16 (p1) := hd 7 _ rfl
    have e43 : a.eval (.tmp 43) = .pointer (some ⟨w.heap.size + 1 + 1, 1, none⟩) := hd 8 _ rfl
    have AG : Blk v (w.heap.size) #[.int .u8 h.tos, .int .u16 h.id, .int .u8 h.fl, .int .u16 h.off, .int .u8 h.ttl, .int .u8 h.pr, .int .u32 h.src, .int .u32 h.dst, SV h.o] 70 := hF (w.heap.size, #[.int .u8 h.tos, .int .u16 h.id, .int .u8 h.fl, .int .u16 h.off, .int .u8 h.ttl, .int .u8 h.pr, .int .u32 h.src, .int .u32 h.dst, SV h.o], 70) (by simp)
    have RG : Blk v (w.heap.size + 1) #[.int .u16 0, .int .u16 0, .int .u16 0, .int .u16 0] 48 := hF (w.heap.size + 1, #[.int .u16 0, .int .u16 0, .int .u16 0, .int .u16 0], 48) (by simp)
    have XG : Blk v (w.heap.size + 1 + 1) #[.int .u16 k0, .int .u16 p1, .int .u16 0, .int .u16 0] 48 := by
      have d0 : World.cell? v ⟨w.heap.size + 1 + 1, 0, none⟩ = some (.int .u16 k0) := hCl (w.heap.size + 1 + 1, 0, .int .u16 k0) (by simp) (by show World.cell? _ _ = _; rw [cX]; rfl)
      have d1 : World.cell? v ⟨w.heap.size + 1 + 1, 1, none⟩ = some (.int .u16 p1) := hd 9 _ rfl 1 (by simp) _ rfl
      have d2 : World.cell? v ⟨w.heap.size + 1 + 1, 2, none⟩ = some (.int .u16 0) := hCl (w.heap.size + 1 + 1, 2, .int .u16 0) (by simp) (by show World.cell? _ _ = _; rw [cX]; rfl)
      have d3 : World.cell? v ⟨w.heap.size + 1 + 1, 3, none⟩ = some (.int .u16 0) := hCl (w.heap.size + 1 + 1, 3, .int .u16 0) (by simp) (by show World.cell? _ _ = _; rw [cX]; rfl)
      exact Fct.of_cells (f := (w.heap.size + 1 + 1, #[.int .u16 k0, .int .u16 p1, .int .u16 0, .int .u16 0], 48)) (hRm _ (by simp)) (fun j hj => by match j, hj with | 0, _ => exact d0 | 1, _ => exact d1 | 2, _ => exact d2 | 3, _ => exact d3 | j + 4, h => exact absurd h (by show ¬ j + 4 < 4; omega))
    have gG := g1.trans hb
    rw [frame_eta a 66 hs, hf]
    simp only [List.range, List.range.loop, List.map_cons, List.map_nil, e35, e36, e37, e38, e39, e40, e41, e42, e43, ho 0 (by kernel_rfl), ho 1 (by kernel_rfl), ho 2 (by kernel_rfl), ho 3 (by kernel_rfl), ho 4 (by kernel_rfl), ho 5 (by kernel_rfl), ho 6 (by kernel_rfl), ho 7 (by kernel_rfl), ho 8 (by kernel_rfl), ho 9 (by kernel_rfl), ho 10 (by kernel_rfl), ho 11 (by kernel_rfl), ho 12 (by kernel_rfl), ho 13 (by kernel_rfl), ho 14 (by kernel_rfl), ho 15 (by kernel_rfl), ho 16 (by kernel_rfl), ho 17 (by kernel_rfl), ho 18 (by kernel_rfl), ho 19 (by kernel_rfl), ho 20 (by kernel_rfl), ho 21 (by kernel_rfl), ho 22 (by kernel_rfl), ho 23 (by kernel_rfl), ho 24 (by kernel_rfl), ho 25 (by kernel_rfl), ho 26 (by kernel_rfl), ho 27 (by kernel_rfl), ho 28 (by kernel_rfl), ho 29 (by kernel_rfl), ho 30 (by kernel_rfl), ho 31 (by kernel_rfl), ho 32 (by kernel_rfl), ho 33 (by kernel_rfl), ho 34 (by kernel_rfl), ho 44 (by kernel_rfl), ho 45 (by kernel_rfl), ho 46 (by kernel_rfl), ho 47 (by kernel_rfl), ho 48 (by kernel_rfl), ho 49 (by kernel_rfl), ho 50 (by kernel_rfl), ho 51 (by kernel_rfl), ho 52 (by kernel_rfl), ho 53 (by kernel_rfl), ho 54 (by kernel_rfl), ho 55 (by kernel_rfl), ho 56 (by kernel_rfl), ho 57 (by kernel_rfl), ho 58 (by kernel_rfl), ho 59 (by kernel_rfl), ho 60 (by kernel_rfl), ho 61 (by kernel_rfl), ho 62 (by kernel_rfl), ho 63 (by kernel_rfl), ho 64 (by kernel_rfl), ho 65 (by kernel_rfl)]
    clear hd hF hRm hCl ho hf hs hb e35 e36 e37 e38 e39 e40 e41 e42 e43
    clear a
    replace cA := AG.cell; replace fA := AG.frozen; replace zA := AG.size
    replace cR := RG.cell; replace fR := RG.frozen; replace zR := RG.size
    replace cX := XG.cell; replace fX := XG.frozen; replace zX := XG.size
    go_simp
    go_wp2_with fail
    go_meet
    exact ⟨rfl, gG, AG, RG, XG⟩
  case rest =>
    obtain ⟨rfl, g2, A2, R2, X2⟩ := hcut
    clear cA fA zA cR fR zR cX fX zX
    have cA := A2.cell; have fA := A2.frozen; have zA := A2.size; have cR := R2.cell; have fR := R2.frozen; have zR := R2.size; have cX := X2.cell; have fX := X2.frozen; have zX := X2.size; have hz2 := g2.size
    go_upto_region 4 with (fail)
    go_cut [51] (fun s51 wx => s51 = .int .u16 p2 ∧ Below w.heap.size w wx ∧ Blk wx (w.heap.size) #[.int .u8 h.tos, .int .u16 h.id, .int .u8 h.fl, .int .u16 h.off, .int .u8 h.ttl, .int .u8 h.pr, .int .u32 h.src, .int .u32 h.dst, SV h.o] 70 ∧ Blk wx (w.heap.size + 1) #[.int .u16 0, .int .u16 0, .int .u16 0, .int .u16 0] 48 ∧ Blk wx (w.heap.size + 1 + 1) #[.int .u16 k0, .int .u16 p1, .int .u16 p2, .int .u16 0] 48)
    case first =>
      refine wp_region_guarS (w.heap.size) (w.heap.size + 1 + 1 + 1) [(w.heap.size, #[.int .u8 h.tos, .int .u16 h.id, .int .u8 h.fl, .int .u16 h.off, .int .u8 h.ttl, .int .u8 h.pr, .int .u32 h.src, .int .u32 h.dst, SV h.o], 70), (w.heap.size + 1, #[.int .u16 0, .int .u16 0, .int .u16 0, .int .u16 0], 48)] [] [(w.heap.size + 1 + 1, #[.int .u16 k0, .int .u16 p1, .int .u16 p2, .int .u16 0], 48)] [(w.heap.size + 1 + 1, 0, .int .u16 k0), (w.heap.size + 1 + 1, 1, .int .u16 p1), (w.heap.size + 1 + 1, 2, .int .u16 p2), (w.heap.size + 1 + 1, 3, .int .u16 0)] [.val (SV b), .val (.int .u8 (y2)), .val (.int .u16 (y2)), .val (.int .u16 (y2 * 256)), .val (SV b), .val (.int .u8 (y3)), .val (.int .u16 (y3)), .val (.int .u16 (p2)), .val (.pointer (some ⟨w.heap.size + 1 + 1, 2, none⟩)), .sets [2]] (by kernel_rfl) (by kernel_rfl) (by omega) (by omega) (by intro f m; simp only [List.mem_cons, List.not_mem_nil, or_false, List.append_nil, List.nil_append, List.cons_append] at m; rcases m with rfl | rfl <;> ((show Blk _ _ _ _) <;> (repeat' (first | (with_reducible (first | assumption | exact Blk.alloc_new _ _ _ (by first | rfl | (simp; done) | omega) | apply Blk.drewN | apply Blk.drew | apply Blk.alloc_old | apply Blk.set_same | apply Blk.set_other)) | (show (_ : Nat) ≠ _; first | omega | (simp; done) | (simp; omega)) | ((simp only [List.setIfInBounds_toArray, List.set_cons_succ, List.set_cons_zero]); (with_reducible exact rfl)) | (with_reducible exact rfl) | (show (_ : Array Value) = _; exact rfl))))) (by intro f m; simp only [List.mem_cons, List.not_mem_nil, or_false, List.append_nil, List.nil_append, List.cons_append] at m; rcases m with rfl <;> (first | (exact ⟨#[.int .u16 k0, .int .u16 p1, .int .u16 0, .int .u16 0], rfl, by (repeat' (first | (with_reducible (first | assumption | exact Blk.alloc_new _ _ _ (by first | rfl | (simp; done) | omega) | apply Blk.drewN | apply Blk.drew | apply Blk.alloc_old | apply Blk.set_same | apply Blk.set_other)) | (show (_ : Nat) ≠ _; first | omega | (simp; done) | (simp; omega)) | ((simp only [List.setIfInBounds_toArray, List.set_cons_succ, List.set_cons_zero]); (with_reducible exact rfl)) | (with_reducible exact rfl) | (show (_ : Array Value) = _; exact rfl)))⟩))) ?_ ?_
      · refine ⟨?_, ?_, ?_, ?_, ?_, ?_, ?_, ?_, ?_, ?_, trivial⟩
        · intro a v c
          have e1 : a.eval (.tmp 1) = SV b := (c.off 1 (by kernel_rfl)).trans rfl
          have f1 := (eval_opt a 1).trans e1
          exact gvalS (SV b) (by simp only [execOp, f1, e1]; go_simp) rfl
        · intro a v c
          have e44 : a.eval (.tmp 44) = SV b := c.dep 0 _ (by kernel_rfl) rfl
          have f44 := (eval_opt a 44).trans e44
          exact gvalS (.int .u8 (y2)) (by simp only [execOp, f44, e44]; go_simp) rfl
        · intro a v c
          have e45 : a.eval (.tmp 45) = .int .u8 (y2) := c.dep 1 _ (by kernel_rfl) rfl
          have f45 := (eval_opt a 45).trans e45
          exact gvalS (.int .u16 (y2)) (by simp only [execOp, f45, e45]; go_simp) rfl
        · intro a v c
          have e46 : a.eval (.tmp 46) = .int .u16 (y2) := c.dep 2 _ (by kernel_rfl) rfl
          have f46 := (eval_opt a 46).trans e46
          exact gvalS (.int .u16 (y2 * 256)) (by simp only [execOp, f46, e46]; go_simp) rfl
        · intro a v c
          have e1 : a.eval (.tmp 1) = SV b := (c.off 1 (by kernel_rfl)).trans rfl
          have f1 := (eval_opt a 1).trans e1
          exact gvalS (SV b) (by simp only [execOp, f1, e1]; go_simp) rfl
        · intro a v c
          have e48 : a.eval (.tmp 48) = SV b := c.dep 4 _ (by kernel_rfl) rfl
          have f48 := (eval_opt a 48).trans e48
          exact gvalS (.int .u8 (y3)) (by simp only [execOp, f48, e48]; go_simp) rfl
        · intro a v c
          have e49 : a.eval (.tmp 49) = .int .u8 (y3) := c.dep 5 _ (by kernel_rfl) rfl
          have f49 := (eval_opt a 49).trans e49
          exact gvalS (.int .u16 (y3)) (by simp only [execOp, f49, e49]; go_simp) rfl
        · intro a v c
          have e47 : a.eval (.tmp 47) = .int .u16 (y2 * 256) := c.dep 3 _ (by kernel_rfl) rfl
          have e50 : a.eval (.tmp 50) = .int .u16 (y3) := c.dep 6 _ (by kernel_rfl) rfl
          have f47 := (eval_opt a 47).trans e47
          have f50 := (eval_opt a 50).trans e50
          exact gvalS (.int .u16 (p2)) (by simp only [execOp, f47, f50, e47, e50]; go_simp) rfl
        · intro a v c
          have e5 : a.eval (.tmp 5) = .pointer (some ⟨w.heap.size + 1 + 1, 0, none⟩) := (c.off 5 (by kernel_rfl)).trans rfl
          have f5 := (eval_opt a 5).trans e5
          exact gvalS (.pointer (some ⟨w.heap.size + 1 + 1, 2, none⟩)) (by simp only [execOp, f5, e5]; go_simp) rfl
        · intro a v c
          have e52 : a.eval (.tmp 52) = .pointer (some ⟨w.heap.size + 1 + 1, 2, none⟩) := c.dep 8 _ (by kernel_rfl) rfl
          have e51 : a.eval (.tmp 51) = .int .u16 (p2) := c.dep 7 _ (by kernel_rfl) rfl
          exact gpartS [2] (w.heap.size + 1 + 1, #[.int .u16 k0, .int .u16 p1, .int .u16 p2, .int .u16 0], 48) (w.heap.size + 1 + 1) 2 (.int .u16 p2) #[.int .u16 p2] 46 (.tmp 52) (.tmp 51) rfl e52 e51 rfl (c.room (w.heap.size + 1 + 1, #[.int .u16 k0, .int .u16 p1, .int .u16 p2, .int .u16 0], 48) (by simp)) rfl (by simp) (by kernel_rfl) (by simp [Value.oneCell']) rfl (by intro q hq c hcq; simp only [List.mem_cons, List.not_mem_nil, or_false] at hq; rcases hq with rfl <;> (have hcq : some _ = some c := hcq; cases hcq; exact ⟨rfl, by simp, by simp⟩)) (by omega) (by omega) (by intro f m; simp only [List.mem_cons, List.not_mem_nil, or_false] at m; rcases m with rfl | rfl <;> ((show _ ≠ _) <;> (first | omega | (simp; omega)))) (fun _ h => absurd h (by simp)) (by intro c m e l1 l2; simp only [List.mem_cons, List.not_mem_nil, or_false] at m; rcases m with rfl | rfl | rfl | rfl <;> (first | rfl | (simp; done) | (exfalso; simp at l1; done) | (exfalso; simp at l2; done) | (exfalso; simp only at l1 l2; simp at l2; omega) | (exfalso; omega)))
      intro a v hb hF hRm hCl hd ho hs hf
      have e44 : a.eval (.tmp 44) = SV b := hd 0 _ rfl
      have e45 : a.eval (.tmp 45) = .int .u8 (y2) := hd 1 _ rfl
      have e46 : a.eval (.tmp 46) = .int .u16 (y2) := hd 2 _ rfl
      have e47 : a.eval (.tmp 47) = .int .u16 (y2 * 256) := hd 3 _ rfl
      have e48 : a.eval (.tmp 48) = SV b := hd 4 _ rfl
      have e49 : a.eval (.tmp 49) = .int .u8 (y3) := hd 5 _ rfl
      have e50 : a.eval (.tmp 50) = .int .u16 (y3) := hd 6 _ rfl
      have e51 : a.eval (.tmp 51) = .int .u16 (p2) := hd 7 _ rfl
      have e52 : a.eval (.tmp 52) = .pointer (some ⟨w.heap.size + 1 + 1, 2, none⟩) := hd 8 _ rfl
      have AG : Blk v (w.heap.size) #[.int .u8 h.tos, .int .u16 h.id, .int .u8 h.fl, .int .u16 h.off, .int .u8 h.ttl, .int .u8 h.pr, .int .u32 h.src, .int .u32 h.dst, SV h.o] 70 := hF (w.heap.size, #[.int .u8 h.tos, .int .u16 h.id, .int .u8 h.fl, .int .u16 h.off, .int .u8 h.ttl, .int .u8 h.pr, .int .u32 h.src, .int .u32 h.dst, SV h.o], 70) (by simp)
      have RG : Blk v (w.heap.size + 1) #[.int .u16 0, .int .u16 0, .int .u16 0, .int .u16 0] 48 := hF (w.heap.size + 1, #[.int .u16 0, .int .u16 0, .int .u16 0, .int .u16 0], 48) (by simp)
      have XG : Blk v (w.heap.size + 1 + 1) #[.int .u16 k0, .int .u16 p1, .int .u16 p2, .int .u16 0] 48 := by
        have d0 : World.cell? v ⟨w.heap.size + 1 + 1, 0, none⟩ = some (.int .u16 k0) := hCl (w.heap.size + 1 + 1, 0, .int .u16 k0) (by simp) (by show World.cell? _ _ = _; rw [cX]; rfl)
        have d1 : World.cell? v ⟨w.heap.size + 1 + 1, 1, none⟩ = some (.int .u16 p1) := hCl (w.heap.size + 1 + 1, 1, .int .u16 p1) (by simp) (by show World.cell? _ _ = _; rw [cX]; rfl)
        have d2 : World.cell? v ⟨w.heap.size + 1 + 1, 2, none⟩ = some (.int .u16 p2) := hd 9 _ rfl 2 (by simp) _ rfl
        have d3 : World.cell? v ⟨w.heap.size + 1 + 1, 3, none⟩ = some (.int .u16 0) := hCl (w.heap.size + 1 + 1, 3, .int .u16 0) (by simp) (by show World.cell? _ _ = _; rw [cX]; rfl)
        exact Fct.of_cells (f := (w.heap.size + 1 + 1, #[.int .u16 k0, .int .u16 p1, .int .u16 p2, .int .u16 0], 48)) (hRm _ (by simp)) (fun j hj => by match j, hj with | 0, _ => exact d0 | 1, _ => exact d1 | 2, _ => exact d2 | 3, _ => exact d3 | j + 4, h => exact absurd h (by show ¬ j + 4 < 4; omega))
      have gG := g2.trans hb
      rw [frame_eta a 66 hs, hf]
      simp only [List.range, List.range.loop, List.map_cons, List.map_nil, e44, e45, e46, e47, e48, e49, e50, e51, e52, ho 0 (by kernel_rfl), ho 1 (by kernel_rfl), ho 2 (by kernel_rfl), ho 3 (by kernel_rfl), ho 4 (by kernel_rfl), ho 5 (by kernel_rfl), ho 6 (by kernel_rfl), ho 7 (by kernel_rfl), ho 8 (by kernel_rfl), ho 9 (by kernel_rfl), ho 10 (by kernel_rfl), ho 11 (by kernel_rfl), ho 12 (by kernel_rfl), ho 13 (by kernel_rfl), ho 14 (by kernel_rfl), ho 15 (by kernel_rfl), ho 16 (by kernel_rfl), ho 17 (by kernel_rfl), ho 18 (by kernel_rfl), ho 19 (by kernel_rfl), ho 20 (by kernel_rfl), ho 21 (by kernel_rfl), ho 22 (by kernel_rfl), ho 23 (by kernel_rfl), ho 24 (by kernel_rfl), ho 25 (by kernel_rfl), ho 26 (by kernel_rfl), ho 27 (by kernel_rfl), ho 28 (by kernel_rfl), ho 29 (by kernel_rfl), ho 30 (by kernel_rfl), ho 31 (by kernel_rfl), ho 32 (by kernel_rfl), ho 33 (by kernel_rfl), ho 34 (by kernel_rfl), ho 35 (by kernel_rfl), ho 36 (by kernel_rfl), ho 37 (by kernel_rfl), ho 38 (by kernel_rfl), ho 39 (by kernel_rfl), ho 40 (by kernel_rfl), ho 41 (by kernel_rfl), ho 42 (by kernel_rfl), ho 43 (by kernel_rfl), ho 53 (by kernel_rfl), ho 54 (by kernel_rfl), ho 55 (by kernel_rfl), ho 56 (by kernel_rfl), ho 57 (by kernel_rfl), ho 58 (by kernel_rfl), ho 59 (by kernel_rfl), ho 60 (by kernel_rfl), ho 61 (by kernel_rfl), ho 62 (by kernel_rfl), ho 63 (by kernel_rfl), ho 64 (by kernel_rfl), ho 65 (by kernel_rfl)]
      clear hd hF hRm hCl ho hf hs hb e44 e45 e46 e47 e48 e49 e50 e51 e52
      clear a
      replace cA := AG.cell; replace fA := AG.frozen; replace zA := AG.size
      replace cR := RG.cell; replace fR := RG.frozen; replace zR := RG.size
      replace cX := XG.cell; replace fX := XG.frozen; replace zX := XG.size
      go_simp
      go_wp2_with fail
      go_meet
      exact ⟨rfl, gG, AG, RG, XG⟩
    case rest =>
      obtain ⟨rfl, g3, A3, R3, X3⟩ := hcut
      clear cA fA zA cR fR zR cX fX zX
      have cA := A3.cell; have fA := A3.frozen; have zA := A3.size; have cR := R3.cell; have fR := R3.frozen; have zR := R3.size; have cX := X3.cell; have fX := X3.frozen; have zX := X3.size; have hz3 := g3.size
      go_wp2
      refine bp_forget (fun v => Below w.heap.size w v ∧ Blk v (w.heap.size + 1) #[.int .u16 k0, .int .u16 p1, .int .u16 p2, .int .u16 k3] 48) ⟨by (repeat' (first | (with_reducible (first | exact Below.refl _ _ | assumption | refine below_drewN ?_ _ | refine Below.drew ?_ | refine Below.alloc ?_ ?_ _ | refine Below.setCell ?_ ?_ _)) | go_size)), by (repeat' (first | (with_reducible (first | assumption | exact Blk.alloc_new _ _ _ (by first | rfl | (simp; done) | omega) | apply Blk.drewN | apply Blk.drew | apply Blk.alloc_old | apply Blk.set_same | apply Blk.set_other)) | (show (_ : Nat) ≠ _; first | omega | (simp; done) | (simp; omega)) | ((simp only [List.setIfInBounds_toArray, List.set_cons_succ, List.set_cons_zero]); (with_reducible exact rfl)) | (with_reducible exact rfl) | (show (_ : Array Value) = _; exact rfl)))⟩ ?_
      rintro v ⟨gv, Bv⟩
      refine bodyPost_ret (v := .agg #[.int .u16 k0, .int .u16 p1, .int .u16 p2, .int .u16 k3]) ?_ ?_ ?_
      · exact results_blk (w.heap.size + 1) #[.int .u16 k0, .int .u16 p1, .int .u16 p2, .int .u16 k3] 48 _ _ _ Try.results48 (by rfl) Bv Try.underlying48 rfl (by kernel_rfl)
      · rfl
      · exact ⟨rfl, gv⟩
set_option maxRecDepth 100000 in
set_option maxHeartbeats 4000000 in
theorem fkey_b17 (h : HD) (b : List Int) (k0 m k3 : Int) (w : World) (ok : h.ok) (hk0 : h.pr * 256 + h.tos / 4 = k0) (hm : xN h.src h.dst = m) (hk3 : xN (m / 65536) (m % 65536) = k3) (h1 : h.pr = 17) (h2 : h.off ≠ 0) :
    Calls Try.prog 48 #[.agg #[.int .u8 h.tos, .int .u16 h.id, .int .u8 h.fl, .int .u16 h.off, .int .u8 h.ttl, .int .u8 h.pr, .int .u32 h.src, .int .u32 h.dst, SV h.o], SV b] w fun e w' => e = .returned (.agg #[.int .u16 k0, .int .u16 0, .int .u16 0, .int .u16 k3]) ∧ Below w.heap.size w w' := by
  have ks := sv_size
  obtain ⟨o1, o2, o3, o4, o5, o6, o7, o8, o9⟩ := ok
  have hx1 : bits .xor .u32 h.src h.dst = m := (xor32 o7 o8).trans hm
  have hm0 : 0 ≤ m ∧ m ≤ 4294967295 := by rw [← hm]; exact xN_32 o7 o8
  have hx2 : bits .xor .u16 (m / 65536) (m % 65536) = k3 := (xor16 (by omega) (by omega)).trans hk3
  have hk0r : 0 ≤ k0 ∧ k0 ≤ 65535 := by omega
  have hsh : IntKind.u16.wrap (h.pr * 256) = h.pr * 256 := by simp [IntKind.wrap, IntKind.bits, IntKind.signed]; omega
  have hor0 : bits .or .u16 (h.pr * 256) (h.tos / 4) = k0 := by
    rw [← hk0]; exact bits_join .u16 16 (by decide) (fun n h0 h1 => by simp [IntKind.wrap, IntKind.bits, IntKind.signed]; omega) 8 _ _ (by omega) (by show _ % 256 = _; omega) (by show _ < (65536 : Int); omega) (by omega) (by show _ < (256 : Int); omega) (by show _ < (65536 : Int); omega)
  have hwm1 : IntKind.u16.wrap (m / 65536) = m / 65536 := by simp [IntKind.wrap, IntKind.bits, IntKind.signed]; omega
  have hwm2 : IntKind.u16.wrap m = m % 65536 := by simp [IntKind.wrap, IntKind.bits, IntKind.signed]
  clear hk0 hm hk3
  have d6 : (h.pr == 6) = false := by simp; omega
  have d17 : (h.pr == 17) = true := by simp; omega
  have d0 : (h.off == 0) = false := by simp; omega
  clear h1 h2
  go_enter Try.func48, Try.ntmps48
  skip
  go_wp2
  refine bp_forget (fun v => Below w.heap.size w v ∧ Blk v (w.heap.size + 1) #[.int .u16 k0, .int .u16 0, .int .u16 0, .int .u16 k3] 48) ⟨by (repeat' (first | (with_reducible (first | exact Below.refl _ _ | assumption | refine below_drewN ?_ _ | refine Below.drew ?_ | refine Below.alloc ?_ ?_ _ | refine Below.setCell ?_ ?_ _)) | go_size)), by (repeat' (first | (with_reducible (first | assumption | exact Blk.alloc_new _ _ _ (by first | rfl | (simp; done) | omega) | apply Blk.drewN | apply Blk.drew | apply Blk.alloc_old | apply Blk.set_same | apply Blk.set_other)) | (show (_ : Nat) ≠ _; first | omega | (simp; done) | (simp; omega)) | ((simp only [List.setIfInBounds_toArray, List.set_cons_succ, List.set_cons_zero]); (with_reducible exact rfl)) | (with_reducible exact rfl) | (show (_ : Array Value) = _; exact rfl)))⟩ ?_
  rintro v ⟨gv, Bv⟩
  refine bodyPost_ret (v := .agg #[.int .u16 k0, .int .u16 0, .int .u16 0, .int .u16 k3]) ?_ ?_ ?_
  · exact results_blk (w.heap.size + 1) #[.int .u16 k0, .int .u16 0, .int .u16 0, .int .u16 k3] 48 _ _ _ Try.results48 (by rfl) Bv Try.underlying48 rfl (by kernel_rfl)
  · rfl
  · exact ⟨rfl, gv⟩
set_option maxRecDepth 100000 in
set_option maxHeartbeats 4000000 in
theorem fkey_c17 (h : HD) (b : List Int) (k0 m k3 : Int) (w : World) (ok : h.ok) (hk0 : h.pr * 256 + h.tos / 4 = k0) (hm : xN h.src h.dst = m) (hk3 : xN (m / 65536) (m % 65536) = k3) (h1 : h.pr = 17) (h2 : h.off = 0) (h4 : b.length < 4) :
    Calls Try.prog 48 #[.agg #[.int .u8 h.tos, .int .u16 h.id, .int .u8 h.fl, .int .u16 h.off, .int .u8 h.ttl, .int .u8 h.pr, .int .u32 h.src, .int .u32 h.dst, SV h.o], SV b] w fun e w' => e = .returned (.agg #[.int .u16 k0, .int .u16 0, .int .u16 0, .int .u16 k3]) ∧ Below w.heap.size w w' := by
  have ks := sv_size
  obtain ⟨o1, o2, o3, o4, o5, o6, o7, o8, o9⟩ := ok
  have hx1 : bits .xor .u32 h.src h.dst = m := (xor32 o7 o8).trans hm
  have hm0 : 0 ≤ m ∧ m ≤ 4294967295 := by rw [← hm]; exact xN_32 o7 o8
  have hx2 : bits .xor .u16 (m / 65536) (m % 65536) = k3 := (xor16 (by omega) (by omega)).trans hk3
  have hk0r : 0 ≤ k0 ∧ k0 ≤ 65535 := by omega
  have hsh : IntKind.u16.wrap (h.pr * 256) = h.pr * 256 := by simp [IntKind.wrap, IntKind.bits, IntKind.signed]; omega
  have hor0 : bits .or .u16 (h.pr * 256) (h.tos / 4) = k0 := by
    rw [← hk0]; exact bits_join .u16 16 (by decide) (fun n h0 h1 => by simp [IntKind.wrap, IntKind.bits, IntKind.signed]; omega) 8 _ _ (by omega) (by show _ % 256 = _; omega) (by show _ < (65536 : Int); omega) (by omega) (by show _ < (256 : Int); omega) (by show _ < (65536 : Int); omega)
  have hwm1 : IntKind.u16.wrap (m / 65536) = m / 65536 := by simp [IntKind.wrap, IntKind.bits, IntKind.signed]; omega
  have hwm2 : IntKind.u16.wrap m = m % 65536 := by simp [IntKind.wrap, IntKind.bits, IntKind.signed]
  clear hk0 hm hk3
  have d6 : (h.pr == 6) = false := by simp; omega
  have d17 : (h.pr == 17) = true := by simp; omega
  have d0 : (h.off == 0) = true := by simp; omega
  have d4 : decide (4 ≤ b.length) = false := decide_eq_false (by omega)
  have d4' : decide ((4 : Int) ≤ (b.length : Int)) = false := decide_eq_false (by omega)
  clear h1 h2
  go_enter Try.func48, Try.ntmps48
  skip
  go_wp2
  refine bp_forget (fun v => Below w.heap.size w v ∧ Blk v (w.heap.size + 1) #[.int .u16 k0, .int .u16 0, .int .u16 0, .int .u16 k3] 48) ⟨by (repeat' (first | (with_reducible (first | exact Below.refl _ _ | assumption | refine below_drewN ?_ _ | refine Below.drew ?_ | refine Below.alloc ?_ ?_ _ | refine Below.setCell ?_ ?_ _)) | go_size)), by (repeat' (first | (with_reducible (first | assumption | exact Blk.alloc_new _ _ _ (by first | rfl | (simp; done) | omega) | apply Blk.drewN | apply Blk.drew | apply Blk.alloc_old | apply Blk.set_same | apply Blk.set_other)) | (show (_ : Nat) ≠ _; first | omega | (simp; done) | (simp; omega)) | ((simp only [List.setIfInBounds_toArray, List.set_cons_succ, List.set_cons_zero]); (with_reducible exact rfl)) | (with_reducible exact rfl) | (show (_ : Array Value) = _; exact rfl)))⟩ ?_
  rintro v ⟨gv, Bv⟩
  refine bodyPost_ret (v := .agg #[.int .u16 k0, .int .u16 0, .int .u16 0, .int .u16 k3]) ?_ ?_ ?_
  · exact results_blk (w.heap.size + 1) #[.int .u16 k0, .int .u16 0, .int .u16 0, .int .u16 k3] 48 _ _ _ Try.results48 (by rfl) Bv Try.underlying48 rfl (by kernel_rfl)
  · rfl
  · exact ⟨rfl, gv⟩
set_option maxRecDepth 100000 in
set_option maxHeartbeats 4000000 in
theorem fkey_d17 (h : HD) (b : List Int) (k0 m k3 : Int) (w : World) (ok : h.ok) (hk0 : h.pr * 256 + h.tos / 4 = k0) (hm : xN h.src h.dst = m) (hk3 : xN (m / 65536) (m % 65536) = k3) (p1 p2 : Int) (hb : Byt b) (h1 : h.pr = 17) (h2 : h.off = 0) (h4 : 4 ≤ b.length) (hp1 : b.getD 0 0 * 256 + b.getD 1 0 = p1) (hp2 : b.getD 2 0 * 256 + b.getD 3 0 = p2) :
    Calls Try.prog 48 #[.agg #[.int .u8 h.tos, .int .u16 h.id, .int .u8 h.fl, .int .u16 h.off, .int .u8 h.ttl, .int .u8 h.pr, .int .u32 h.src, .int .u32 h.dst, SV h.o], SV b] w fun e w' => e = .returned (.agg #[.int .u16 k0, .int .u16 p1, .int .u16 p2, .int .u16 k3]) ∧ Below w.heap.size w w' := by
  have ks := sv_size
  obtain ⟨o1, o2, o3, o4, o5, o6, o7, o8, o9⟩ := ok
  have hx1 : bits .xor .u32 h.src h.dst = m := (xor32 o7 o8).trans hm
  have hm0 : 0 ≤ m ∧ m ≤ 4294967295 := by rw [← hm]; exact xN_32 o7 o8
  have hx2 : bits .xor .u16 (m / 65536) (m % 65536) = k3 := (xor16 (by omega) (by omega)).trans hk3
  have hk0r : 0 ≤ k0 ∧ k0 ≤ 65535 := by omega
  have hsh : IntKind.u16.wrap (h.pr * 256) = h.pr * 256 := by simp [IntKind.wrap, IntKind.bits, IntKind.signed]; omega
  have hor0 : bits .or .u16 (h.pr * 256) (h.tos / 4) = k0 := by
    rw [← hk0]; exact bits_join .u16 16 (by decide) (fun n h0 h1 => by simp [IntKind.wrap, IntKind.bits, IntKind.signed]; omega) 8 _ _ (by omega) (by show _ % 256 = _; omega) (by show _ < (65536 : Int); omega) (by omega) (by show _ < (256 : Int); omega) (by show _ < (65536 : Int); omega)
  have hwm1 : IntKind.u16.wrap (m / 65536) = m / 65536 := by simp [IntKind.wrap, IntKind.bits, IntKind.signed]; omega
  have hwm2 : IntKind.u16.wrap m = m % 65536 := by simp [IntKind.wrap, IntKind.bits, IntKind.signed]
  clear hk0 hm hk3
  have d6 : (h.pr == 6) = false := by simp; omega
  have d17 : (h.pr == 17) = true := by simp; omega
  have d0 : (h.off == 0) = true := by simp; omega
  have d4 : decide (4 ≤ b.length) = true := decide_eq_true (by omega)
  have d4' : decide ((4 : Int) ≤ (b.length : Int)) = true := decide_eq_true (by omega)
  clear h1 h2
  obtain ⟨y0, hy0⟩ : ∃ x, b.getD 0 0 = x := ⟨_, rfl⟩
  have r0 := hb.get 0
  rw [hy0] at r0
  have ix0 : ∀ v, (Instr.index 9 (SV b) (.int .i64 0)).run Try.prog v = .ok (.int .u8 y0) v := fun v => sv_idx hb 0 y0 (by omega) hy0 v
  have w0s : IntKind.u16.wrap y0 = y0 := by simp [IntKind.wrap, IntKind.bits, IntKind.signed]; omega
  have wm0 : IntKind.u16.wrap (y0 * 256) = y0 * 256 := by simp [IntKind.wrap, IntKind.bits, IntKind.signed]; omega
  obtain ⟨y1, hy1⟩ : ∃ x, b.getD 1 0 = x := ⟨_, rfl⟩
  have r1 := hb.get 1
  rw [hy1] at r1
  have ix1 : ∀ v, (Instr.index 9 (SV b) (.int .i64 1)).run Try.prog v = .ok (.int .u8 y1) v := fun v => sv_idx hb 1 y1 (by omega) hy1 v
  have w1s : IntKind.u16.wrap y1 = y1 := by simp [IntKind.wrap, IntKind.bits, IntKind.signed]; omega
  have wm1 : IntKind.u16.wrap (y1 * 256) = y1 * 256 := by simp [IntKind.wrap, IntKind.bits, IntKind.signed]; omega
  obtain ⟨y2, hy2⟩ : ∃ x, b.getD 2 0 = x := ⟨_, rfl⟩
  have r2 := hb.get 2
  rw [hy2] at r2
  have ix2 : ∀ v, (Instr.index 9 (SV b) (.int .i64 2)).run Try.prog v = .ok (.int .u8 y2) v := fun v => sv_idx hb 2 y2 (by omega) hy2 v
  have w2s : IntKind.u16.wrap y2 = y2 := by simp [IntKind.wrap, IntKind.bits, IntKind.signed]; omega
  have wm2 : IntKind.u16.wrap (y2 * 256) = y2 * 256 := by simp [IntKind.wrap, IntKind.bits, IntKind.signed]; omega
  obtain ⟨y3, hy3⟩ : ∃ x, b.getD 3 0 = x := ⟨_, rfl⟩
  have r3 := hb.get 3
  rw [hy3] at r3
  have ix3 : ∀ v, (Instr.index 9 (SV b) (.int .i64 3)).run Try.prog v = .ok (.int .u8 y3) v := fun v => sv_idx hb 3 y3 (by omega) hy3 v
  have w3s : IntKind.u16.wrap y3 = y3 := by simp [IntKind.wrap, IntKind.bits, IntKind.signed]; omega
  have wm3 : IntKind.u16.wrap (y3 * 256) = y3 * 256 := by simp [IntKind.wrap, IntKind.bits, IntKind.signed]; omega
  rw [hy0, hy1] at hp1; rw [hy2, hy3] at hp2
  have hor1 : bits .or .u16 (y0 * 256) y1 = p1 := by rw [← hp1]; exact bits_join .u16 16 (by decide) (fun n h0 h1 => by simp [IntKind.wrap, IntKind.bits, IntKind.signed]; omega) 8 _ _ (by omega) (by show _ % 256 = _; omega) (by show _ < (65536 : Int); omega) (by omega) (by show _ < (256 : Int); omega) (by show _ < (65536 : Int); omega)
  have hor2 : bits .or .u16 (y2 * 256) y3 = p2 := by rw [← hp2]; exact bits_join .u16 16 (by decide) (fun n h0 h1 => by simp [IntKind.wrap, IntKind.bits, IntKind.signed]; omega) 8 _ _ (by omega) (by show _ % 256 = _; omega) (by show _ < (65536 : Int); omega) (by omega) (by show _ < (256 : Int); omega) (by show _ < (65536 : Int); omega)
  clear hy0 hy1 hy2 hy3 hp1 hp2
  go_enter Try.func48, Try.ntmps48
  go_upto_region 3 with (fail)
  refine wp_forget (fun v => Below w.heap.size w v ∧ Blk v (w.heap.size) #[.int .u8 h.tos, .int .u16 h.id, .int .u8 h.fl, .int .u16 h.off, .int .u8 h.ttl, .int .u8 h.pr, .int .u32 h.src, .int .u32 h.dst, SV h.o] 70 ∧ Blk v (w.heap.size + 1) #[.int .u16 0, .int .u16 0, .int .u16 0, .int .u16 0] 48 ∧ Blk v (w.heap.size + 1 + 1) #[.int .u16 k0, .int .u16 0, .int .u16 0, .int .u16 0] 48) ⟨by (repeat' (first | (with_reducible (first | exact Below.refl _ _ | assumption | refine below_drewN ?_ _ | refine Below.drew ?_ | refine Below.alloc ?_ ?_ _ | refine Below.setCell ?_ ?_ _)) | go_size)), by (repeat' (first | (with_reducible (first | assumption | exact Blk.alloc_new _ _ _ (by first | rfl | (simp; done) | omega) | apply Blk.drewN | apply Blk.drew | apply Blk.alloc_old | apply Blk.set_same | apply Blk.set_other)) | (show (_ : Nat) ≠ _; first | omega | (simp; done) | (simp; omega)) | ((simp only [List.setIfInBounds_toArray, List.set_cons_succ, List.set_cons_zero]); (with_reducible exact rfl)) | (with_reducible exact rfl) | (show (_ : Array Value) = _; exact rfl))), by (repeat' (first | (with_reducible (first | assumption | exact Blk.alloc_new _ _ _ (by first | rfl | (simp; done) | omega) | apply Blk.drewN | apply Blk.drew | apply Blk.alloc_old | apply Blk.set_same | apply Blk.set_other)) | (show (_ : Nat) ≠ _; first | omega | (simp; done) | (simp; omega)) | ((simp only [List.setIfInBounds_toArray, List.set_cons_succ, List.set_cons_zero]); (with_reducible exact rfl)) | (with_reducible exact rfl) | (show (_ : Array Value) = _; exact rfl))), by (repeat' (first | (with_reducible (first | assumption | exact Blk.alloc_new _ _ _ (by first | rfl | (simp; done) | omega) | apply Blk.drewN | apply Blk.drew | apply Blk.alloc_old | apply Blk.set_same | apply Blk.set_other)) | (show (_ : Nat) ≠ _; first | omega | (simp; done) | (simp; omega)) | ((simp only [List.setIfInBounds_toArray, List.set_cons_succ, List.set_cons_zero]); (with_reducible exact rfl)) | (with_reducible exact rfl) | (show (_ : Array Value) = _; exact rfl)))⟩ ?_
  rintro w1 ⟨g1, A1, R1, X1⟩
  have hz1 := g1.size
  replace cA := A1.cell
  replace fA := A1.frozen
  replace zA := A1.size
  replace cR := R1.cell
  replace fR := R1.frozen
  replace zR := R1.size
  replace cX := X1.cell
  replace fX := X1.frozen
  replace zX := X1.size
  go_cut [42] (fun s42 wx => s42 = .int .u16 p1 ∧ Below w.heap.size w wx ∧ Blk wx (w.heap.size) #[.int .u8 h.tos, .int .u16 h.id, .int .u8 h.fl, .int .u16 h.off, .int .u8 h.ttl, .int .u8 h.pr, .int .u32 h.src, .int .u32 h.dst, SV h.o] 70 ∧ Blk wx (w.heap.size + 1) #[.int .u16 0, .int .u16 0, .int .u16 0, .int .u16 0] 48 ∧ Blk wx (w.heap.size + 1 + 1) #[.int .u16 k0, .int .u16 p1, .int .u16 0, .int .u16 0] 48)
  case first =>
    refine wp_region_guarS (w.heap.size) (w.heap.size + 1 + 1 + 1) [(w.heap.size, #[.int .u8 h.tos, .int .u16 h.id, .int .u8 h.fl, .int .u16 h.off, .int .u8 h.ttl, .int .u8 h.pr, .int .u32 h.src, .int .u32 h.dst, SV h.o], 70), (w.heap.size + 1, #[.int .u16 0, .int .u16 0, .int .u16 0, .int .u16 0], 48)] [] [(w.heap.size + 1 + 1, #[.int .u16 k0, .int .u16 p1, .int .u16 0, .int .u16 0], 48)] [(w.heap.size + 1 + 1, 0, .int .u16 k0), (w.heap.size + 1 + 1, 1, .int .u16 p1), (w.heap.size + 1 + 1, 2, .int .u16 0), (w.heap.size + 1 + 1, 3, .int .u16 0)] [.val (SV b), .val (.int .u8 (y0)), .val (.int .u16 (y0)), .val (.int .u16 (y0 * 256)), .val (SV b), .val (.int .u8 (y1)), .val (.int .u16 (y1)), .val (.int .u16 (p1)), .val (.pointer (some ⟨w.heap.size + 1 + 1, 1, none⟩)), .sets [1]] (by kernel_rfl) (by kernel_rfl) (by omega) (by omega) (by intro f m; simp only [List.mem_cons, List.not_mem_nil, or_false, List.append_nil, List.nil_append, List.cons_append] at m; rcases m with rfl | rfl <;> ((show Blk _ _ _ _) <;> (repeat' (first | (with_reducible (first | assumption | exact Blk.alloc_new _ _ _ (by first | rfl | (simp; done) | omega) | apply Blk.drewN | apply Blk.drew | apply Blk.alloc_old | apply Blk.set_same | apply Blk.set_other)) | (show (_ : Nat) ≠ _; first | omega | (simp; done) | (simp; omega)) | ((simp only [List.setIfInBounds_toArray, List.set_cons_succ, List.set_cons_zero]); (with_reducible exact rfl)) | (with_reducible exact rfl) | (show (_ : Array Value) = _; exact rfl))))) (by intro f m; simp only [List.mem_cons, List.not_mem_nil, or_false, List.append_nil, List.nil_append, List.cons_append] at m; rcases m with rfl <;> (first | (exact ⟨#[.int .u16 k0, .int .u16 0, .int .u16 0, .int .u16 0], rfl, by (repeat' (first | (with_reducible (first | assumption | exact Blk.alloc_new _ _ _ (by first | rfl | (simp; done) | omega) | apply Blk.drewN | apply Blk.drew | apply Blk.alloc_old | apply Blk.set_same | apply Blk.set_other)) | (show (_ : Nat) ≠ _; first | omega | (simp; done) | (simp; omega)) | ((simp only [List.setIfInBounds_toArray, List.set_cons_succ, List.set_cons_zero]); (with_reducible exact rfl)) | (with_reducible exact rfl) | (show (_ : Array Value) = _; exact rfl)))⟩))) ?_ ?_
    · refine ⟨?_, ?_, ?_, ?_, ?_, ?_, ?_, ?_, ?_, ?_, trivial⟩
      · intro a v c
        have e1 : a.eval (.tmp 1) = SV b := (c.off 1 (by kernel_rfl)).trans rfl
        have f1 := (eval_opt a 1).trans e1
        exact gvalS (SV b) (by simp only [execOp, f1, e1]; go_simp) rfl
      · intro a v c
        have e35 : a.eval (.tmp 35) = SV b := c.dep 0 _ (by kernel_rfl) rfl
        have f35 := (eval_opt a 35).trans e35
        exact gvalS (.int .u8 (y0)) (by simp only [execOp, f35, e35]; go_simp) rfl
      · intro a v c
        have e36 : a.eval (.tmp 36) = .int .u8 (y0) := c.dep 1 _ (by kernel_rfl) rfl
        have f36 := (eval_opt a 36).trans e36
        exact gvalS (.int .u16 (y0)) (by simp only [execOp, f36, e36]; go_simp) rfl
      · intro a v c
        have e37 : a.eval (.tmp 37) = .int .u16 (y0) := c.dep 2 _ (by kernel_rfl) rfl
        have f37 := (eval_opt a 37).trans e37
        exact gvalS (.int .u16 (y0 * 256)) (by simp only [execOp, f37, e37]; go_simp) rfl
      · intro a v c
        have e1 : a.eval (.tmp 1) = SV b := (c.off 1 (by kernel_rfl)).trans rfl
        have f1 := (eval_opt a 1).trans e1
        exact gvalS (SV b) (by simp only [execOp, f1, e1]; go_simp) rfl
      · intro a v c
        have e39 : a.eval (.tmp 39) = SV b := c.dep 4 _ (by kernel_rfl) rfl
        have f39 := (eval_opt a 39).trans e39
        exact gvalS (.int .u8 (y1)) (by simp only [execOp, f39, e39]; go_simp) rfl
      · intro a v c
        have e40 : a.eval (.tmp 40) = .int .u8 (y1) := c.dep 5 _ (by kernel_rfl) rfl
        have f40 := (eval_opt a 40).trans e40
        exact gvalS (.int .u16 (y1)) (by simp only [execOp, f40, e40]; go_simp) rfl
      · intro a v c
        have e38 : a.eval (.tmp 38) = .int .u16 (y0 * 256) := c.dep 3 _ (by kernel_rfl) rfl
        have e41 : a.eval (.tmp 41) = .int .u16 (y1) := c.dep 6 _ (by kernel_rfl) rfl
        have f38 := (eval_opt a 38).trans e38
        have f41 := (eval_opt a 41).trans e41
        exact gvalS (.int .u16 (p1)) (by simp only [execOp, f38, f41, e38, e41]; go_simp) rfl
      · intro a v c
        have e5 : a.eval (.tmp 5) = .pointer (some ⟨w.heap.size + 1 + 1, 0, none⟩) := (c.off 5 (by kernel_rfl)).trans rfl
        have f5 := (eval_opt a 5).trans e5
        exact gvalS (.pointer (some ⟨w.heap.size + 1 + 1, 1, none⟩)) (by simp only [execOp, f5, e5]; go_simp) rfl
      · intro a v c
        have e43 : a.eval (.tmp 43) = .pointer (some ⟨w.heap.size + 1 + 1, 1, none⟩) := c.dep 8 _ (by kernel_rfl) rfl
        have e42 : a.eval (.tmp 42) = .int .u16 (p1) := c.dep 7 _ (by kernel_rfl) rfl
        exact gpartS [1] (w.heap.size + 1 + 1, #[.int .u16 k0, .int .u16 p1, .int .u16 0, .int .u16 0], 48) (w.heap.size + 1 + 1) 1 (.int .u16 p1) #[.int .u16 p1] 46 (.tmp 43) (.tmp 42) rfl e43 e42 rfl (c.room (w.heap.size + 1 + 1, #[.int .u16 k0, .int .u16 p1, .int .u16 0, .int .u16 0], 48) (by simp)) rfl (by simp) (by kernel_rfl) (by simp [Value.oneCell']) rfl (by intro q hq c hcq; simp only [List.mem_cons, List.not_mem_nil, or_false] at hq; rcases hq with rfl <;> (have hcq : some _ = some c := hcq; cases hcq; exact ⟨rfl, by simp, by simp⟩)) (by omega) (by omega) (by intro f m; simp only [List.mem_cons, List.not_mem_nil, or_false] at m; rcases m with rfl | rfl <;> ((show _ ≠ _) <;> (first | omega | (simp; omega)))) (fun _ h => absurd h (by simp)) (by intro c m e l1 l2; simp only [List.mem_cons, List.not_mem_nil, or_false] at m; rcases m with rfl | rfl | rfl | rfl <;> (first | rfl | (simp; done) | (exfalso; simp at l1; done) | (exfalso; simp at l2; done) | (exfalso; simp only at l1 l2; simp at l2; omega) | (exfalso; omega)))
    intro a v hb hF hRm hCl hd ho hs hf
    have e35 : a.eval (.tmp 35) = SV b := hd 0 _ rfl
    have e36 : a.eval (.tmp 36) = .int .u8 (y0) := hd 1 _ rfl
    have e37 : a.eval (.tmp 37) = .int .u16 (y0) := hd 2 _ rfl
    have e38 : a.eval (.tmp 38) = .int .u16 (y0 * 256) := hd 3 _ rfl
    have e39 : a.eval (.tmp 39) = SV b := hd 4 _ rfl
    have e40 : a.eval (.tmp 40) = .int .u8 (y1) := hd 5 _ rfl
    have e41 : a.eval (.tmp 41) = .int .u16 (y1) := hd 6 _ rfl
    have e42 : a.eval (.tmp 42) = .int .u16 (p1) := hd 7 _ rfl
    have e43 : a.eval (.tmp 43) = .pointer (some ⟨w.heap.size + 1 + 1, 1, none⟩) := hd 8 _ rfl
    have AG : Blk v (w.heap.size) #[.int .u8 h.tos, .int .u16 h.id, .int .u8 h.fl, .int .u16 h.off, .int .u8 h.ttl, .int .u8 h.pr, .int .u32 h.src, .int .u32 h.dst, SV h.o] 70 := hF (w.heap.size, #[.int .u8 h.tos, .int .u16 h.id, .int .u8 h.fl, .int .u16 h.off, .int .u8 h.ttl, .int .u8 h.pr, .int .u32 h.src, .int .u32 h.dst, SV h.o], 70) (by simp)
    have RG : Blk v (w.heap.size + 1) #[.int .u16 0, .int .u16 0, .int .u16 0, .int .u16 0] 48 := hF (w.heap.size + 1, #[.int .u16 0, .int .u16 0, .int .u16 0, .int .u16 0], 48) (by simp)
    have XG : Blk v (w.heap.size + 1 + 1) #[.int .u16 k0, .int .u16 p1, .int .u16 0, .int .u16 0] 48 := by
      have d0 : World.cell? v ⟨w.heap.size + 1 + 1, 0, none⟩ = some (.int .u16 k0) := hCl (w.heap.size + 1 + 1, 0, .int .u16 k0) (by simp) (by show World.cell? _ _ = _; rw [cX]; rfl)
      have d1 : World.cell? v ⟨w.heap.size + 1 + 1, 1, none⟩ = some (.int .u16 p1) := hd 9 _ rfl 1 (by simp) _ rfl
      have d2 : World.cell? v ⟨w.heap.size + 1 + 1, 2, none⟩ = some (.int .u16 0) := hCl (w.heap.size + 1 + 1, 2, .int .u16 0) (by simp) (by show World.cell? _ _ = _; rw [cX]; rfl)
      have d3 : World.cell? v ⟨w.heap.size + 1 + 1, 3, none⟩ = some (.int .u16 0) := hCl (w.heap.size + 1 + 1, 3, .int .u16 0) (by simp) (by show World.cell? _ _ = _; rw [cX]; rfl)
      exact Fct.of_cells (f := (w.heap.size + 1 + 1, #[.int .u16 k0, .int .u16 p1, .int .u16 0, .int .u16 0], 48)) (hRm _ (by simp)) (fun j hj => by match j, hj with | 0, _ => exact d0 | 1, _ => exact d1 | 2, _ => exact d2 | 3, _ => exact d3 | j + 4, h => exact absurd h (by show ¬ j + 4 < 4; omega))
    have gG := g1.trans hb
    rw [frame_eta a 66 hs, hf]
    simp only [List.range, List.range.loop, List.map_cons, List.map_nil, e35, e36, e37, e38, e39, e40, e41, e42, e43, ho 0 (by kernel_rfl), ho 1 (by kernel_rfl), ho 2 (by kernel_rfl), ho 3 (by kernel_rfl), ho 4 (by kernel_rfl), ho 5 (by kernel_rfl), ho 6 (by kernel_rfl), ho 7 (by kernel_rfl), ho 8 (by kernel_rfl), ho 9 (by kernel_rfl), ho 10 (by kernel_rfl), ho 11 (by kernel_rfl), ho 12 (by kernel_rfl), ho 13 (by kernel_rfl), ho 14 (by kernel_rfl), ho 15 (by kernel_rfl), ho 16 (by kernel_rfl), ho 17 (by kernel_rfl), ho 18 (by kernel_rfl), ho 19 (by kernel_rfl), ho 20 (by kernel_rfl), ho 21 (by kernel_rfl), ho 22 (by kernel_rfl), ho 23 (by kernel_rfl), ho 24 (by kernel_rfl), ho 25 (by kernel_rfl), ho 26 (by kernel_rfl), ho 27 (by kernel_rfl), ho 28 (by kernel_rfl), ho 29 (by kernel_rfl), ho 30 (by kernel_rfl), ho 31 (by kernel_rfl), ho 32 (by kernel_rfl), ho 33 (by kernel_rfl), ho 34 (by kernel_rfl), ho 44 (by kernel_rfl), ho 45 (by kernel_rfl), ho 46 (by kernel_rfl), ho 47 (by kernel_rfl), ho 48 (by kernel_rfl), ho 49 (by kernel_rfl), ho 50 (by kernel_rfl), ho 51 (by kernel_rfl), ho 52 (by kernel_rfl), ho 53 (by kernel_rfl), ho 54 (by kernel_rfl), ho 55 (by kernel_rfl), ho 56 (by kernel_rfl), ho 57 (by kernel_rfl), ho 58 (by kernel_rfl), ho 59 (by kernel_rfl), ho 60 (by kernel_rfl), ho 61 (by kernel_rfl), ho 62 (by kernel_rfl), ho 63 (by kernel_rfl), ho 64 (by kernel_rfl), ho 65 (by kernel_rfl)]
    clear hd hF hRm hCl ho hf hs hb e35 e36 e37 e38 e39 e40 e41 e42 e43
    clear a
    replace cA := AG.cell; replace fA := AG.frozen; replace zA := AG.size
    replace cR := RG.cell; replace fR := RG.frozen; replace zR := RG.size
    replace cX := XG.cell; replace fX := XG.frozen; replace zX := XG.size
    go_simp
    go_wp2_with fail
    go_meet
    exact ⟨rfl, gG, AG, RG, XG⟩
  case rest =>
    obtain ⟨rfl, g2, A2, R2, X2⟩ := hcut
    clear cA fA zA cR fR zR cX fX zX
    have cA := A2.cell; have fA := A2.frozen; have zA := A2.size; have cR := R2.cell; have fR := R2.frozen; have zR := R2.size; have cX := X2.cell; have fX := X2.frozen; have zX := X2.size; have hz2 := g2.size
    go_upto_region 4 with (fail)
    go_cut [51] (fun s51 wx => s51 = .int .u16 p2 ∧ Below w.heap.size w wx ∧ Blk wx (w.heap.size) #[.int .u8 h.tos, .int .u16 h.id, .int .u8 h.fl, .int .u16 h.off, .int .u8 h.ttl, .int .u8 h.pr, .int .u32 h.src, .int .u32 h.dst, SV h.o] 70 ∧ Blk wx (w.heap.size + 1) #[.int .u16 0, .int .u16 0, .int .u16 0, .int .u16 0] 48 ∧ Blk wx (w.heap.size + 1 + 1) #[.int .u16 k0, .int .u16 p1, .int .u16 p2, .int .u16 0] 48)
    case first =>
      refine wp_region_guarS (w.heap.size) (w.heap.size + 1 + 1 + 1) [(w.heap.size, #[.int .u8 h.tos, .int .u16 h.id, .int .u8 h.fl, .int .u16 h.off, .int .u8 h.ttl, .int .u8 h.pr, .int .u32 h.src, .int .u32 h.dst, SV h.o], 70), (w.heap.size + 1, #[.int .u16 0, .int .u16 0, .int .u16 0, .int .u16 0], 48)] [] [(w.heap.size + 1 + 1, #[.int .u16 k0, .int .u16 p1, .int .u16 p2, .int .u16 0], 48)] [(w.heap.size + 1 + 1, 0, .int .u16 k0), (w.heap.size + 1 + 1, 1, .int .u16 p1), (w.heap.size + 1 + 1, 2, .int .u16 p2), (w.heap.size + 1 + 1, 3, .int .u16 0)] [.val (SV b), .val (.int .u8 (y2)), .val (.int .u16 (y2)), .val (.int .u16 (y2 * 256)), .val (SV b), .val (.int .u8 (y3)), .val (.int .u16 (y3)), .val (.int .u16 (p2)), .val (.pointer (some ⟨w.heap.size + 1 + 1, 2, none⟩)), .sets [2]] (by kernel_rfl) (by kernel_rfl) (by omega) (by omega) (by intro f m; simp only [List.mem_cons, List.not_mem_nil, or_false, List.append_nil, List.nil_append, List.cons_append] at m; rcases m with rfl | rfl <;> ((show Blk _ _ _ _) <;> (repeat' (first | (with_reducible (first | assumption | exact Blk.alloc_new _ _ _ (by first | rfl | (simp; done) | omega) | apply Blk.drewN | apply Blk.drew | apply Blk.alloc_old | apply Blk.set_same | apply Blk.set_other)) | (show (_ : Nat) ≠ _; first | omega | (simp; done) | (simp; omega)) | ((simp only [List.setIfInBounds_toArray, List.set_cons_succ, List.set_cons_zero]); (with_reducible exact rfl)) | (with_reducible exact rfl) | (show (_ : Array Value) = _; exact rfl))))) (by intro f m; simp only [List.mem_cons, List.not_mem_nil, or_false, List.append_nil, List.nil_append, List.cons_append] at m; rcases m with rfl <;> (first | (exact ⟨#[.int .u16 k0, .int .u16 p1, .int .u16 0, .int .u16 0], rfl, by (repeat' (first | (with_reducible (first | assumption | exact Blk.alloc_new _ _ _ (by first | rfl | (simp; done) | omega) | apply Blk.drewN | apply Blk.drew | apply Blk.alloc_old | apply Blk.set_same | apply Blk.set_other)) | (show (_ : Nat) ≠ _; first | omega | (simp; done) | (simp; omega)) | ((simp only [List.setIfInBounds_toArray, List.set_cons_succ, List.set_cons_zero]); (with_reducible exact rfl)) | (with_reducible exact rfl) | (show (_ : Array Value) = _; exact rfl)))⟩))) ?_ ?_
      · refine ⟨?_, ?_, ?_, ?_, ?_, ?_, ?_, ?_, ?_, ?_, trivial⟩
        · intro a v c
          have e1 : a.eval (.tmp 1) = SV b := (c.off 1 (by kernel_rfl)).trans rfl
          have f1 := (eval_opt a 1).trans e1
          exact gvalS (SV b) (by simp only [execOp, f1, e1]; go_simp) rfl
        · intro a v c
          have e44 : a.eval (.tmp 44) = SV b := c.dep 0 _ (by kernel_rfl) rfl
          have f44 := (eval_opt a 44).trans e44
          exact gvalS (.int .u8 (y2)) (by simp only [execOp, f44, e44]; go_simp) rfl
        · intro a v c
          have e45 : a.eval (.tmp 45) = .int .u8 (y2) := c.dep 1 _ (by kernel_rfl) rfl
          have f45 := (eval_opt a 45).trans e45
          exact gvalS (.int .u16 (y2)) (by simp only [execOp, f45, e45]; go_simp) rfl
        · intro a v c
          have e46 : a.eval (.tmp 46) = .int .u16 (y2) := c.dep 2 _ (by kernel_rfl) rfl
          have f46 := (eval_opt a 46).trans e46
          exact gvalS (.int .u16 (y2 * 256)) (by simp only [execOp, f46, e46]; go_simp) rfl
        · intro a v c
          have e1 : a.eval (.tmp 1) = SV b := (c.off 1 (by kernel_rfl)).trans rfl
          have f1 := (eval_opt a 1).trans e1
          exact gvalS (SV b) (by simp only [execOp, f1, e1]; go_simp) rfl
        · intro a v c
          have e48 : a.eval (.tmp 48) = SV b := c.dep 4 _ (by kernel_rfl) rfl
          have f48 := (eval_opt a 48).trans e48
          exact gvalS (.int .u8 (y3)) (by simp only [execOp, f48, e48]; go_simp) rfl
        · intro a v c
          have e49 : a.eval (.tmp 49) = .int .u8 (y3) := c.dep 5 _ (by kernel_rfl) rfl
          have f49 := (eval_opt a 49).trans e49
          exact gvalS (.int .u16 (y3)) (by simp only [execOp, f49, e49]; go_simp) rfl
        · intro a v c
          have e47 : a.eval (.tmp 47) = .int .u16 (y2 * 256) := c.dep 3 _ (by kernel_rfl) rfl
          have e50 : a.eval (.tmp 50) = .int .u16 (y3) := c.dep 6 _ (by kernel_rfl) rfl
          have f47 := (eval_opt a 47).trans e47
          have f50 := (eval_opt a 50).trans e50
          exact gvalS (.int .u16 (p2)) (by simp only [execOp, f47, f50, e47, e50]; go_simp) rfl
        · intro a v c
          have e5 : a.eval (.tmp 5) = .pointer (some ⟨w.heap.size + 1 + 1, 0, none⟩) := (c.off 5 (by kernel_rfl)).trans rfl
          have f5 := (eval_opt a 5).trans e5
          exact gvalS (.pointer (some ⟨w.heap.size + 1 + 1, 2, none⟩)) (by simp only [execOp, f5, e5]; go_simp) rfl
        · intro a v c
          have e52 : a.eval (.tmp 52) = .pointer (some ⟨w.heap.size + 1 + 1, 2, none⟩) := c.dep 8 _ (by kernel_rfl) rfl
          have e51 : a.eval (.tmp 51) = .int .u16 (p2) := c.dep 7 _ (by kernel_rfl) rfl
          exact gpartS [2] (w.heap.size + 1 + 1, #[.int .u16 k0, .int .u16 p1, .int .u16 p2, .int .u16 0], 48) (w.heap.size + 1 + 1) 2 (.int .u16 p2) #[.int .u16 p2] 46 (.tmp 52) (.tmp 51) rfl e52 e51 rfl (c.room (w.heap.size + 1 + 1, #[.int .u16 k0, .int .u16 p1, .int .u16 p2, .int .u16 0], 48) (by simp)) rfl (by simp) (by kernel_rfl) (by simp [Value.oneCell']) rfl (by intro q hq c hcq; simp only [List.mem_cons, List.not_mem_nil, or_false] at hq; rcases hq with rfl <;> (have hcq : some _ = some c := hcq; cases hcq; exact ⟨rfl, by simp, by simp⟩)) (by omega) (by omega) (by intro f m; simp only [List.mem_cons, List.not_mem_nil, or_false] at m; rcases m with rfl | rfl <;> ((show _ ≠ _) <;> (first | omega | (simp; omega)))) (fun _ h => absurd h (by simp)) (by intro c m e l1 l2; simp only [List.mem_cons, List.not_mem_nil, or_false] at m; rcases m with rfl | rfl | rfl | rfl <;> (first | rfl | (simp; done) | (exfalso; simp at l1; done) | (exfalso; simp at l2; done) | (exfalso; simp only at l1 l2; simp at l2; omega) | (exfalso; omega)))
      intro a v hb hF hRm hCl hd ho hs hf
      have e44 : a.eval (.tmp 44) = SV b := hd 0 _ rfl
      have e45 : a.eval (.tmp 45) = .int .u8 (y2) := hd 1 _ rfl
      have e46 : a.eval (.tmp 46) = .int .u16 (y2) := hd 2 _ rfl
      have e47 : a.eval (.tmp 47) = .int .u16 (y2 * 256) := hd 3 _ rfl
      have e48 : a.eval (.tmp 48) = SV b := hd 4 _ rfl
      have e49 : a.eval (.tmp 49) = .int .u8 (y3) := hd 5 _ rfl
      have e50 : a.eval (.tmp 50) = .int .u16 (y3) := hd 6 _ rfl
      have e51 : a.eval (.tmp 51) = .int .u16 (p2) := hd 7 _ rfl
      have e52 : a.eval (.tmp 52) = .pointer (some ⟨w.heap.size + 1 + 1, 2, none⟩) := hd 8 _ rfl
      have AG : Blk v (w.heap.size) #[.int .u8 h.tos, .int .u16 h.id, .int .u8 h.fl, .int .u16 h.off, .int .u8 h.ttl, .int .u8 h.pr, .int .u32 h.src, .int .u32 h.dst, SV h.o] 70 := hF (w.heap.size, #[.int .u8 h.tos, .int .u16 h.id, .int .u8 h.fl, .int .u16 h.off, .int .u8 h.ttl, .int .u8 h.pr, .int .u32 h.src, .int .u32 h.dst, SV h.o], 70) (by simp)
      have RG : Blk v (w.heap.size + 1) #[.int .u16 0, .int .u16 0, .int .u16 0, .int .u16 0] 48 := hF (w.heap.size + 1, #[.int .u16 0, .int .u16 0, .int .u16 0, .int .u16 0], 48) (by simp)
      have XG : Blk v (w.heap.size + 1 + 1) #[.int .u16 k0, .int .u16 p1, .int .u16 p2, .int .u16 0] 48 := by
        have d0 : World.cell? v ⟨w.heap.size + 1 + 1, 0, none⟩ = some (.int .u16 k0) := hCl (w.heap.size + 1 + 1, 0, .int .u16 k0) (by simp) (by show World.cell? _ _ = _; rw [cX]; rfl)
        have d1 : World.cell? v ⟨w.heap.size + 1 + 1, 1, none⟩ = some (.int .u16 p1) := hCl (w.heap.size + 1 + 1, 1, .int .u16 p1) (by simp) (by show World.cell? _ _ = _; rw [cX]; rfl)
        have d2 : World.cell? v ⟨w.heap.size + 1 + 1, 2, none⟩ = some (.int .u16 p2) := hd 9 _ rfl 2 (by simp) _ rfl
        have d3 : World.cell? v ⟨w.heap.size + 1 + 1, 3, none⟩ = some (.int .u16 0) := hCl (w.heap.size + 1 + 1, 3, .int .u16 0) (by simp) (by show World.cell? _ _ = _; rw [cX]; rfl)
        exact Fct.of_cells (f := (w.heap.size + 1 + 1, #[.int .u16 k0, .int .u16 p1, .int .u16 p2, .int .u16 0], 48)) (hRm _ (by simp)) (fun j hj => by match j, hj with | 0, _ => exact d0 | 1, _ => exact d1 | 2, _ => exact d2 | 3, _ => exact d3 | j + 4, h => exact absurd h (by show ¬ j + 4 < 4; omega))
      have gG := g2.trans hb
      rw [frame_eta a 66 hs, hf]
      simp only [List.range, List.range.loop, List.map_cons, List.map_nil, e44, e45, e46, e47, e48, e49, e50, e51, e52, ho 0 (by kernel_rfl), ho 1 (by kernel_rfl), ho 2 (by kernel_rfl), ho 3 (by kernel_rfl), ho 4 (by kernel_rfl), ho 5 (by kernel_rfl), ho 6 (by kernel_rfl), ho 7 (by kernel_rfl), ho 8 (by kernel_rfl), ho 9 (by kernel_rfl), ho 10 (by kernel_rfl), ho 11 (by kernel_rfl), ho 12 (by kernel_rfl), ho 13 (by kernel_rfl), ho 14 (by kernel_rfl), ho 15 (by kernel_rfl), ho 16 (by kernel_rfl), ho 17 (by kernel_rfl), ho 18 (by kernel_rfl), ho 19 (by kernel_rfl), ho 20 (by kernel_rfl), ho 21 (by kernel_rfl), ho 22 (by kernel_rfl), ho 23 (by kernel_rfl), ho 24 (by kernel_rfl), ho 25 (by kernel_rfl), ho 26 (by kernel_rfl), ho 27 (by kernel_rfl), ho 28 (by kernel_rfl), ho 29 (by kernel_rfl), ho 30 (by kernel_rfl), ho 31 (by kernel_rfl), ho 32 (by kernel_rfl), ho 33 (by kernel_rfl), ho 34 (by kernel_rfl), ho 35 (by kernel_rfl), ho 36 (by kernel_rfl), ho 37 (by kernel_rfl), ho 38 (by kernel_rfl), ho 39 (by kernel_rfl), ho 40 (by kernel_rfl), ho 41 (by kernel_rfl), ho 42 (by kernel_rfl), ho 43 (by kernel_rfl), ho 53 (by kernel_rfl), ho 54 (by kernel_rfl), ho 55 (by kernel_rfl), ho 56 (by kernel_rfl), ho 57 (by kernel_rfl), ho 58 (by kernel_rfl), ho 59 (by kernel_rfl), ho 60 (by kernel_rfl), ho 61 (by kernel_rfl), ho 62 (by kernel_rfl), ho 63 (by kernel_rfl), ho 64 (by kernel_rfl), ho 65 (by kernel_rfl)]
      clear hd hF hRm hCl ho hf hs hb e44 e45 e46 e47 e48 e49 e50 e51 e52
      clear a
      replace cA := AG.cell; replace fA := AG.frozen; replace zA := AG.size
      replace cR := RG.cell; replace fR := RG.frozen; replace zR := RG.size
      replace cX := XG.cell; replace fX := XG.frozen; replace zX := XG.size
      go_simp
      go_wp2_with fail
      go_meet
      exact ⟨rfl, gG, AG, RG, XG⟩
    case rest =>
      obtain ⟨rfl, g3, A3, R3, X3⟩ := hcut
      clear cA fA zA cR fR zR cX fX zX
      have cA := A3.cell; have fA := A3.frozen; have zA := A3.size; have cR := R3.cell; have fR := R3.frozen; have zR := R3.size; have cX := X3.cell; have fX := X3.frozen; have zX := X3.size; have hz3 := g3.size
      go_wp2
      refine bp_forget (fun v => Below w.heap.size w v ∧ Blk v (w.heap.size + 1) #[.int .u16 k0, .int .u16 p1, .int .u16 p2, .int .u16 k3] 48) ⟨by (repeat' (first | (with_reducible (first | exact Below.refl _ _ | assumption | refine below_drewN ?_ _ | refine Below.drew ?_ | refine Below.alloc ?_ ?_ _ | refine Below.setCell ?_ ?_ _)) | go_size)), by (repeat' (first | (with_reducible (first | assumption | exact Blk.alloc_new _ _ _ (by first | rfl | (simp; done) | omega) | apply Blk.drewN | apply Blk.drew | apply Blk.alloc_old | apply Blk.set_same | apply Blk.set_other)) | (show (_ : Nat) ≠ _; first | omega | (simp; done) | (simp; omega)) | ((simp only [List.setIfInBounds_toArray, List.set_cons_succ, List.set_cons_zero]); (with_reducible exact rfl)) | (with_reducible exact rfl) | (show (_ : Array Value) = _; exact rfl)))⟩ ?_
      rintro v ⟨gv, Bv⟩
      refine bodyPost_ret (v := .agg #[.int .u16 k0, .int .u16 p1, .int .u16 p2, .int .u16 k3]) ?_ ?_ ?_
      · exact results_blk (w.heap.size + 1) #[.int .u16 k0, .int .u16 p1, .int .u16 p2, .int .u16 k3] 48 _ _ _ Try.results48 (by rfl) Bv Try.underlying48 rfl (by kernel_rfl)
      · rfl
      · exact ⟨rfl, gv⟩
end Go.Proofs.Ytljpiofpfankoaa
