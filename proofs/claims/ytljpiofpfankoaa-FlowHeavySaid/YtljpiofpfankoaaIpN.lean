/-
  The walks of the reference's Head and Body. Conditions: bytes that are a datagram.
-/
import Derived.Test.YtljpiofpfankoaaIpM
namespace Go.Proofs.Ytljpiofpfankoaa
open Go.RowKit Go.Sort
set_option linter.unusedVariables false
set_option linter.unusedSimpArgs false
theorem hor4 (l : List Int) (i : Nat) : hor (l.drop i) 4 = ((l.getD i 0 * 256 + l.getD (i + 1) 0) * 256 + l.getD (i + 2) 0) * 256 + l.getD (i + 3) 0 := by
  show (((0 * 256 + (l.drop i).getD 0 0) * 256 + (l.drop i).getD 1 0) * 256 + (l.drop i).getD 2 0) * 256 + (l.drop i).getD 3 0 = _
  rw [getD_drop, getD_drop, getD_drop, getD_drop, Nat.add_zero]; omega
set_option maxRecDepth 100000 in
set_option maxHeartbeats 4000000 in
theorem ipHead (l OP : List Int) (sz : Nat) (b1 id pt fl off b8 b9 src dst : Int) (w : World) (hl : Byt l) (hb : l.length ≤ 300000) (h20 : 20 ≤ l.length) (h1 : 69 ≤ l.getD 0 0 ∧ l.getD 0 0 ≤ 79) (hsz : l.getD 0 0 % 16 * 4 = (sz : Int)) (hszl : sz ≤ l.length)
    (e1 : l.getD 1 0 = b1) (e4 : l.getD 4 0 * 256 + l.getD 5 0 = id) (e6 : l.getD 6 0 * 256 + l.getD 7 0 = pt) (efl : pt / 8192 = fl) (eoff : pt % 8192 = off) (e8 : l.getD 8 0 = b8) (e9 : l.getD 9 0 = b9) (e12 : ((l.getD 12 0 * 256 + l.getD 13 0) * 256 + l.getD 14 0) * 256 + l.getD 15 0 = src) (e16 : ((l.getD 16 0 * 256 + l.getD 17 0) * 256 + l.getD 18 0) * 256 + l.getD 19 0 = dst) (eO : (l.drop 20).take (sz - 20) = OP) :
    Calls Try.prog 51 #[SV l] w fun e w' => e = .returned (.agg #[.int .u8 b1, .int .u16 id, .int .u8 fl, .int .u16 off, .int .u8 b8, .int .u8 b9, .int .u32 src, .int .u32 dst, SV OP]) ∧ Below w.heap.size w w' := by
  have ks := sv_size
  have kx := strOf_sub
  have q4 := hl.get 4; have q5 := hl.get 5; have q6 := hl.get 6; have q7 := hl.get 7
  have q12 := hl.get 12; have q13 := hl.get 13; have q14 := hl.get 14; have q15 := hl.get 15; have q16 := hl.get 16; have q17 := hl.get 17; have q18 := hl.get 18; have q19 := hl.get 19
  have pr4 : 0 ≤ id ∧ id ≤ 65535 := by omega
  have pr6 : 0 ≤ pt ∧ pt ≤ 65535 := by omega
  have prf : 0 ≤ fl ∧ fl ≤ 7 := by omega
  have pro : 0 ≤ off ∧ off ≤ 8191 := by omega
  have prs : 0 ≤ src ∧ src ≤ 4294967295 := by omega
  have prd : 0 ≤ dst ∧ dst ≤ 4294967295 := by omega
  obtain ⟨b0, hb0⟩ : ∃ x, l.getD 0 0 = x := ⟨_, rfl⟩
  have r0 := hl.get 0
  rw [hb0] at r0
  have x0 : ∀ v, (Instr.index 9 (SV l) (.int .i64 0)).run Try.prog v = .ok (.int .u8 b0) v := fun v => sv_idx hl 0 b0 (by omega) hb0 v
  have hb1 := e1
  have r1 := hl.get 1
  rw [hb1] at r1
  have x1 : ∀ v, (Instr.index 9 (SV l) (.int .i64 1)).run Try.prog v = .ok (.int .u8 b1) v := fun v => sv_idx hl 1 b1 (by omega) hb1 v
  have hb8 := e8
  have r8 := hl.get 8
  rw [hb8] at r8
  have x8 : ∀ v, (Instr.index 9 (SV l) (.int .i64 8)).run Try.prog v = .ok (.int .u8 b8) v := fun v => sv_idx hl 8 b8 (by omega) hb8 v
  have hb9 := e9
  have r9 := hl.get 9
  rw [hb9] at r9
  have x9 : ∀ v, (Instr.index 9 (SV l) (.int .i64 9)).run Try.prog v = .ok (.int .u8 b9) v := fun v => sv_idx hl 9 b9 (by omega) hb9 v
  rw [hb0] at hsz h1
  have hs4 : 4 * (b0 - 64) = (sz : Int) := by omega
  have E4 := hide ((hor2 l 4).trans e4); have E6 := hide ((hor2 l 6).trans e6); have E12 := hide ((hor4 l 12).trans e12); have E16 := hide ((hor4 l 16).trans e16)
  have HL := hide hl
  have hv1 : IntKind.u16.wrap id = id := by simp [IntKind.wrap, IntKind.bits, IntKind.signed]; omega
  have hv3 : IntKind.u8.wrap fl = fl := by rw [IntKind.wrap_u8]; omega
  have hv4 : IntKind.u16.wrap off = off := by simp [IntKind.wrap, IntKind.bits, IntKind.signed]; omega
  have hv5 : IntKind.u32.wrap src = src := by rw [IntKind.wrap_u32]; omega
  have hv6 : IntKind.u32.wrap dst = dst := by rw [IntKind.wrap_u32]; omega
  have ht1 : pt.tmod 8192 = off := by rw [Int.tmod_eq_emod_of_nonneg pr6.1]; exact eoff
  have ht2 : pt.tdiv 8192 = fl := by rw [Int.tdiv_eq_ediv_of_nonneg pr6.1]; exact efl
  have hs1 : (sz : Int).toNat = sz := Int.toNat_natCast sz
  have hl20 : (20 : Int) ≤ (sz : Int) := by omega
  have hlsz : (sz : Int) ≤ (l.length : Int) := by omega
  have hn20 : 20 ≤ sz := by omega
  clear hl e4 e6 e12 e16 hb0 hb1 hb8 hb9 e1 e8 e9 q4 q5 q6 q7 q12 q13 q14 q15 q16 q17 q18 q19
  go_enter Try.func51, Try.ntmps51
  go_upto_region 2 with (fail)
  refine wp_forget (fun v => Below w.heap.size w v ∧ Blk v (w.heap.size) #[.int .u8 0, .int .u16 0, .int .u8 0, .int .u16 0, .int .u8 0, .int .u8 0, .int .u32 0, .int .u32 0, .string ⟨#[]⟩] 121) ⟨by (repeat' (first | (with_reducible (first | exact Below.refl _ _ | assumption | refine below_drewN ?_ _ | refine Below.drew ?_ | refine Below.alloc ?_ ?_ _ | refine Below.setCell ?_ ?_ _)) | go_size)), by (repeat' (first | (with_reducible (first | assumption | exact Blk.alloc_new _ _ _ (by first | rfl | (simp; done) | omega) | apply Blk.drewN | apply Blk.drew | apply Blk.alloc_old | apply Blk.set_same | apply Blk.set_other)) | (show (_ : Nat) ≠ _; first | omega | (simp; done) | (simp; omega)) | ((simp only [List.setIfInBounds_toArray, List.set_cons_succ, List.set_cons_zero]); (with_reducible exact rfl)) | (with_reducible exact rfl) | (show (_ : Array Value) = _; exact rfl)))⟩ ?_
  rintro v2 ⟨gv2, Rv2⟩
  have qR2 := blk_calm Rv2
  refine wp_region_sink_below 27 (by kernel_rfl) (by kernel_rfl) ?_
  simp only [List.take_succ_cons, List.take_zero, List.drop_succ_cons, List.drop_zero]
  repeat (go_big_quiet_step ((first
      | (go_at_call 49; (with_reducible exact calm_same (ipAt l 4 2 4 2 id _ rfl rfl HL.out (by omega) (by omega) (by omega) E4.out)))
      | (go_at_call 49; (with_reducible exact calm_same (ipAt l 6 2 6 2 pt _ rfl rfl HL.out (by omega) (by omega) (by omega) E6.out)))
      | (go_at_call 49; (with_reducible exact calm_same (ipAt l 12 4 12 4 src _ rfl rfl HL.out (by omega) (by omega) (by omega) E12.out)))
      | (go_at_call 49; (with_reducible exact calm_same (ipAt l 16 4 16 4 dst _ rfl rfl HL.out (by omega) (by omega) (by omega) E16.out))))))
  refine wpQuiet_nil ?_
  intro _ hw'
  obtain ⟨pq, hw''⟩ := hw'
  subst hw''
  have hb2 := below_regrown v2 pq.d pq.os
  generalize Sort.grow (redrawn v2 pq.d) pq.os = w2 at *
  have R2 : Blk w2 (w.heap.size) #[.int .u8 0, .int .u16 0, .int .u8 0, .int .u16 0, .int .u8 0, .int .u8 0, .int .u32 0, .int .u32 0, .string ⟨#[]⟩] 121 := Blk.below Rv2 hb2 Rv2.size
  have g2 : Below w.heap.size w w2 := gv2.trans (hb2.mono gv2.size)
  have hz2 : w.heap.size ≤ w2.heap.size := g2.size
  clear hb2 gv2 Rv2 qR2
  replace cR := R2.cell
  replace fR := R2.frozen
  replace zR := R2.size
  refine store_blk 121 (.tmp 2) (.tmp 35) (w.heap.size) #[.int .u8 0, .int .u16 0, .int .u8 0, .int .u16 0, .int .u8 0, .int .u8 0, .int .u32 0, .int .u32 0, .string ⟨#[]⟩] #[.int .u8 b1, .int .u16 id, .int .u8 fl, .int .u16 off, .int .u8 b8, .int .u8 b9, .int .u32 src, .int .u32 dst, SV OP] 121 (by rfl) (by rfl) (by rfl) (by rfl) (by (repeat' (first | (with_reducible (first | assumption | exact Blk.alloc_new _ _ _ (by first | rfl | (simp; done) | omega) | apply Blk.drewN | apply Blk.drew | apply Blk.alloc_old | apply Blk.set_same | apply Blk.set_other)) | (show (_ : Nat) ≠ _; first | omega | (simp; done) | (simp; omega)) | ((simp only [List.setIfInBounds_toArray, List.set_cons_succ, List.set_cons_zero]); (with_reducible exact rfl)) | (with_reducible exact rfl) | (show (_ : Array Value) = _; exact rfl)))) rfl (by kernel_rfl) (by simp [Value.oneCell']) ?_
  intro v Bv kB kO hs
  have gv : Below w.heap.size w v := kB _ _ (by first | (simp; done) | omega | (simp; omega)) (by (repeat' (first | (with_reducible (first | exact Below.refl _ _ | assumption | refine below_drewN ?_ _ | refine Below.drew ?_ | refine Below.alloc ?_ ?_ _ | refine Below.setCell ?_ ?_ _)) | go_size)))
  clear kB kO hs
  go_wp2
  refine bodyPost_ret (v := .agg #[.int .u8 b1, .int .u16 id, .int .u8 fl, .int .u16 off, .int .u8 b8, .int .u8 b9, .int .u32 src, .int .u32 dst, SV OP]) ?_ ?_ ?_
  · exact results_blk (w.heap.size) #[.int .u8 b1, .int .u16 id, .int .u8 fl, .int .u16 off, .int .u8 b8, .int .u8 b9, .int .u32 src, .int .u32 dst, SV OP] 121 _ _ _ Try.results51 (by rfl) Bv Try.underlying121 rfl (by kernel_rfl)
  · rfl
  · exact ⟨rfl, gv⟩
theorem ipBody (l BD : List Int) (sz : Nat) (w : World) (hl : Byt l) (hb : l.length ≤ 300000) (h20 : 20 ≤ l.length) (h1 : 69 ≤ l.getD 0 0 ∧ l.getD 0 0 ≤ 79) (hsz : l.getD 0 0 % 16 * 4 = (sz : Int)) (hszl : sz ≤ l.length) (eB : l.drop sz = BD) :
    Calls Try.prog 52 #[SV l] w fun e w' => e = .returned (SV BD) ∧ Below w.heap.size w w' := by
  have ks := sv_size
  have kx := strOf_sub
  obtain ⟨b0, hb0⟩ : ∃ x, l.getD 0 0 = x := ⟨_, rfl⟩
  have r0 := hl.get 0
  rw [hb0] at r0
  have x0 : ∀ v, (Instr.index 9 (SV l) (.int .i64 0)).run Try.prog v = .ok (.int .u8 b0) v := fun v => sv_idx hl 0 b0 (by omega) hb0 v
  rw [hb0] at hsz h1
  have hs4 : 4 * (b0 - 64) = (sz : Int) := by omega
  have hs1 : (sz : Int).toNat = sz := Int.toNat_natCast sz
  have hlsz : (sz : Int) ≤ (l.length : Int) := by omega
  have htk : (l.drop sz).take (l.length - sz) = BD := by rw [← eB]; exact List.take_of_length_le (by simp)
  have htk2 : BD.take (l.length - sz) = BD := by rw [← eB]; exact List.take_of_length_le (by simp)
  clear hb0
  go_enter Try.func52, Try.ntmps52
  go_wp2
  go_ret
  exact ⟨rfl, by (repeat' (first | (with_reducible (first | exact Below.refl _ _ | assumption | refine below_drewN ?_ _ | refine Below.drew ?_ | refine Below.alloc ?_ ?_ _ | refine Below.setCell ?_ ?_ _)) | go_size))⟩
end Go.Proofs.Ytljpiofpfankoaa
