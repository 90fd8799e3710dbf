/-
  The walks of the reference's Wrong and Encode. Conditions: fields in range.
-/
import Derived.Test.YtldahcfggeebgaaIpC
namespace Go.Proofs.Ytldahcfggeebgaa
open Go.RowKit Go.Sort
set_option linter.unusedVariables false
set_option linter.unusedSimpArgs false
set_option maxHeartbeats 2000000 in
theorem ipWrong_a (tos id fl off ttl pr src dst : Int) (o b F : List Int) (w : World) (htos : 0 ≤ tos ∧ tos ≤ 255) (hid : 0 ≤ id ∧ id ≤ 65535) (hfl : 0 ≤ fl ∧ fl ≤ 255) (hoff : 0 ≤ off ∧ off ≤ 65535) (httl : 0 ≤ ttl ∧ ttl ≤ 255) (hpr : 0 ≤ pr ∧ pr ≤ 255) (hsrc : 0 ≤ src ∧ src ≤ 4294967295) (hdst : 0 ≤ dst ∧ dst ≤ 4294967295) (hob : o.length ≤ 4611686018427387904) (hbb : b.length ≤ 4611686018427387904) (hF : full o = F) (h1 : 7 < fl) :
    Calls Try.prog 27 #[.agg #[.int .u8 tos, .int .u16 id, .int .u8 fl, .int .u16 off, .int .u8 ttl, .int .u8 pr, .int .u32 src, .int .u32 dst, SV o], SV b] w fun e w' => e = .returned (.int .i64 1) ∧ Below w.heap.size w w' := by
  have HF := hide hF
  have hFl := full_len o
  rw [hF] at hFl
  have ks := sv_size
  clear hF
  have d1 : decide (7 < fl) = true := decide_eq_true (by omega)
  go_enter Try.func27, Try.ntmps27
  go_wp2
  go_ret
  exact ⟨rfl, by (repeat' (first | (with_reducible (first | exact Below.refl _ _ | assumption | refine below_drewN ?_ _ | refine Below.drew ?_ | refine Below.alloc ?_ ?_ _ | refine Below.setCell ?_ ?_ _)) | go_size))⟩
set_option maxHeartbeats 2000000 in
theorem ipWrong_b (tos id fl off ttl pr src dst : Int) (o b F : List Int) (w : World) (htos : 0 ≤ tos ∧ tos ≤ 255) (hid : 0 ≤ id ∧ id ≤ 65535) (hfl : 0 ≤ fl ∧ fl ≤ 255) (hoff : 0 ≤ off ∧ off ≤ 65535) (httl : 0 ≤ ttl ∧ ttl ≤ 255) (hpr : 0 ≤ pr ∧ pr ≤ 255) (hsrc : 0 ≤ src ∧ src ≤ 4294967295) (hdst : 0 ≤ dst ∧ dst ≤ 4294967295) (hob : o.length ≤ 4611686018427387904) (hbb : b.length ≤ 4611686018427387904) (hF : full o = F) (h1 : fl ≤ 7) (h2 : 8191 < off) :
    Calls Try.prog 27 #[.agg #[.int .u8 tos, .int .u16 id, .int .u8 fl, .int .u16 off, .int .u8 ttl, .int .u8 pr, .int .u32 src, .int .u32 dst, SV o], SV b] w fun e w' => e = .returned (.int .i64 1) ∧ Below w.heap.size w w' := by
  have HF := hide hF
  have hFl := full_len o
  rw [hF] at hFl
  have ks := sv_size
  clear hF
  have d1 : decide (7 < fl) = false := decide_eq_false (by omega)
  have d2 : decide (8191 < off) = true := decide_eq_true (by omega)
  go_enter Try.func27, Try.ntmps27
  go_wp2
  go_ret
  exact ⟨rfl, by (repeat' (first | (with_reducible (first | exact Below.refl _ _ | assumption | refine below_drewN ?_ _ | refine Below.drew ?_ | refine Below.alloc ?_ ?_ _ | refine Below.setCell ?_ ?_ _)) | go_size))⟩
set_option maxHeartbeats 2000000 in
theorem ipWrong_c (tos id fl off ttl pr src dst : Int) (o b F : List Int) (w : World) (htos : 0 ≤ tos ∧ tos ≤ 255) (hid : 0 ≤ id ∧ id ≤ 65535) (hfl : 0 ≤ fl ∧ fl ≤ 255) (hoff : 0 ≤ off ∧ off ≤ 65535) (httl : 0 ≤ ttl ∧ ttl ≤ 255) (hpr : 0 ≤ pr ∧ pr ≤ 255) (hsrc : 0 ≤ src ∧ src ≤ 4294967295) (hdst : 0 ≤ dst ∧ dst ≤ 4294967295) (hob : o.length ≤ 4611686018427387904) (hbb : b.length ≤ 4611686018427387904) (hF : full o = F) (h1 : fl ≤ 7) (h2 : off ≤ 8191) (h3 : 40 < o.length) :
    Calls Try.prog 27 #[.agg #[.int .u8 tos, .int .u16 id, .int .u8 fl, .int .u16 off, .int .u8 ttl, .int .u8 pr, .int .u32 src, .int .u32 dst, SV o], SV b] w fun e w' => e = .returned (.int .i64 2) ∧ Below w.heap.size w w' := by
  have HF := hide hF
  have hFl := full_len o
  rw [hF] at hFl
  have ks := sv_size
  clear hF
  have d1 : decide (7 < fl) = false := decide_eq_false (by omega)
  have d2 : decide (8191 < off) = false := decide_eq_false (by omega)
  have d3 : decide ((40 : Int) < (o.length : Int)) = true := decide_eq_true (by omega)
  go_enter Try.func27, Try.ntmps27
  go_wp2
  go_ret
  exact ⟨rfl, by (repeat' (first | (with_reducible (first | exact Below.refl _ _ | assumption | refine below_drewN ?_ _ | refine Below.drew ?_ | refine Below.alloc ?_ ?_ _ | refine Below.setCell ?_ ?_ _)) | go_size))⟩
set_option maxHeartbeats 2000000 in
theorem ipWrong_d (tos id fl off ttl pr src dst : Int) (o b F : List Int) (w : World) (htos : 0 ≤ tos ∧ tos ≤ 255) (hid : 0 ≤ id ∧ id ≤ 65535) (hfl : 0 ≤ fl ∧ fl ≤ 255) (hoff : 0 ≤ off ∧ off ≤ 65535) (httl : 0 ≤ ttl ∧ ttl ≤ 255) (hpr : 0 ≤ pr ∧ pr ≤ 255) (hsrc : 0 ≤ src ∧ src ≤ 4294967295) (hdst : 0 ≤ dst ∧ dst ≤ 4294967295) (hob : o.length ≤ 4611686018427387904) (hbb : b.length ≤ 4611686018427387904) (hF : full o = F) (h1 : fl ≤ 7) (h2 : off ≤ 8191) (h3 : o.length ≤ 40) (h4 : 65515 - (F.length : Int) < b.length) :
    Calls Try.prog 27 #[.agg #[.int .u8 tos, .int .u16 id, .int .u8 fl, .int .u16 off, .int .u8 ttl, .int .u8 pr, .int .u32 src, .int .u32 dst, SV o], SV b] w fun e w' => e = .returned (.int .i64 2) ∧ Below w.heap.size w w' := by
  have HF := hide hF
  have hFl := full_len o
  rw [hF] at hFl
  have ks := sv_size
  clear hF
  have d1 : decide (7 < fl) = false := decide_eq_false (by omega)
  have d2 : decide (8191 < off) = false := decide_eq_false (by omega)
  have d3 : decide ((40 : Int) < (o.length : Int)) = false := decide_eq_false (by omega)
  have d4 : decide ((65515 : Int) - (F.length : Int) < (b.length : Int)) = true := decide_eq_true (by omega)
  go_enter Try.func27, Try.ntmps27
  go_wp2_with fail
  refine (ipFull o F _ hob HF.out).mono ?_
  rintro e w1 ⟨rfl, hb1⟩
  have g1 : Below w.heap.size w w1 := by refine Below.trans ?_ (hb1.mono ?_) <;> (repeat' (first | (with_reducible (first | exact Below.refl _ _ | assumption | refine below_drewN ?_ _ | refine Below.drew ?_ | refine Below.alloc ?_ ?_ _ | refine Below.setCell ?_ ?_ _)) | go_size))
  have hz1 := hb1.size
  (try simp at hz1)
  clear hb1
  go_wp2
  go_ret
  exact ⟨rfl, by (repeat' (first | (with_reducible (first | exact Below.refl _ _ | assumption | refine below_drewN ?_ _ | refine Below.drew ?_ | refine Below.alloc ?_ ?_ _ | refine Below.setCell ?_ ?_ _)) | go_size))⟩
set_option maxHeartbeats 2000000 in
theorem ipWrong_e (tos id fl off ttl pr src dst : Int) (o b F : List Int) (w : World) (htos : 0 ≤ tos ∧ tos ≤ 255) (hid : 0 ≤ id ∧ id ≤ 65535) (hfl : 0 ≤ fl ∧ fl ≤ 255) (hoff : 0 ≤ off ∧ off ≤ 65535) (httl : 0 ≤ ttl ∧ ttl ≤ 255) (hpr : 0 ≤ pr ∧ pr ≤ 255) (hsrc : 0 ≤ src ∧ src ≤ 4294967295) (hdst : 0 ≤ dst ∧ dst ≤ 4294967295) (hob : o.length ≤ 4611686018427387904) (hbb : b.length ≤ 4611686018427387904) (hF : full o = F) (h1 : fl ≤ 7) (h2 : off ≤ 8191) (h3 : o.length ≤ 40) (h4 : ¬ 65515 - (F.length : Int) < b.length) :
    Calls Try.prog 27 #[.agg #[.int .u8 tos, .int .u16 id, .int .u8 fl, .int .u16 off, .int .u8 ttl, .int .u8 pr, .int .u32 src, .int .u32 dst, SV o], SV b] w fun e w' => e = .returned (.int .i64 0) ∧ Below w.heap.size w w' := by
  have HF := hide hF
  have hFl := full_len o
  rw [hF] at hFl
  have ks := sv_size
  clear hF
  have d1 : decide (7 < fl) = false := decide_eq_false (by omega)
  have d2 : decide (8191 < off) = false := decide_eq_false (by omega)
  have d3 : decide ((40 : Int) < (o.length : Int)) = false := decide_eq_false (by omega)
  have d4 : decide ((65515 : Int) - (F.length : Int) < (b.length : Int)) = false := decide_eq_false (by omega)
  go_enter Try.func27, Try.ntmps27
  go_wp2_with fail
  refine (ipFull o F _ hob HF.out).mono ?_
  rintro e w1 ⟨rfl, hb1⟩
  have g1 : Below w.heap.size w w1 := by refine Below.trans ?_ (hb1.mono ?_) <;> (repeat' (first | (with_reducible (first | exact Below.refl _ _ | assumption | refine below_drewN ?_ _ | refine Below.drew ?_ | refine Below.alloc ?_ ?_ _ | refine Below.setCell ?_ ?_ _)) | go_size))
  have hz1 := hb1.size
  (try simp at hz1)
  clear hb1
  go_wp2
  go_ret
  exact ⟨rfl, by (repeat' (first | (with_reducible (first | exact Below.refl _ _ | assumption | refine below_drewN ?_ _ | refine Below.drew ?_ | refine Below.alloc ?_ ?_ _ | refine Below.setCell ?_ ?_ _)) | go_size))⟩
theorem ipWrong (h : HD) (b : List Int) (w : World) (ok : h.ok) (hob : h.o.length ≤ 4611686018427387904) (hbb : b.length ≤ 4611686018427387904) (r : Int) (hr : wrongR h b.length = r) :
    Calls Try.prog 27 #[hdv h, SV b] w fun e w' => e = .returned (.int .i64 r) ∧ Below w.heap.size w w' := by
  obtain ⟨o1, o2, o3, o4, o5, o6, o7, o8, o9⟩ := ok
  unfold wrongR at hr
  by_cases h1 : 7 < h.fl
  · rw [if_pos (.inl h1)] at hr; subst hr
    exact ipWrong_a h.tos h.id h.fl h.off h.ttl h.pr h.src h.dst h.o b _ w o1 o2 o3 o4 o5 o6 o7 o8 hob hbb rfl h1
  by_cases h2 : 8191 < h.off
  · rw [if_pos (.inr h2)] at hr; subst hr
    exact ipWrong_b h.tos h.id h.fl h.off h.ttl h.pr h.src h.dst h.o b _ w o1 o2 o3 o4 o5 o6 o7 o8 hob hbb rfl (by omega) h2
  rw [if_neg (by omega)] at hr
  by_cases h3 : 40 < h.o.length
  · rw [if_pos (.inl h3)] at hr; subst hr
    exact ipWrong_c h.tos h.id h.fl h.off h.ttl h.pr h.src h.dst h.o b _ w o1 o2 o3 o4 o5 o6 o7 o8 hob hbb rfl (by omega) (by omega) h3
  by_cases h4 : 65515 - ((full h.o).length : Int) < b.length
  · rw [if_pos (.inr (by omega))] at hr; subst hr
    exact ipWrong_d h.tos h.id h.fl h.off h.ttl h.pr h.src h.dst h.o b _ w o1 o2 o3 o4 o5 o6 o7 o8 hob hbb rfl (by omega) (by omega) (by omega) h4
  · rw [if_neg (by omega)] at hr; subst hr
    exact ipWrong_e h.tos h.id h.fl h.off h.ttl h.pr h.src h.dst h.o b _ w o1 o2 o3 o4 o5 o6 o7 o8 hob hbb rfl (by omega) (by omega) (by omega) h4
set_option maxRecDepth 100000 in
set_option maxHeartbeats 4000000 in
theorem ipREncode (tos id fl off ttl pr src dst m T P c b0 t1 t0 i1 i0 p1 p0 s3 s2 s1 s0 e3 e2 e1 e0 c1 c0 : Int) (o b F : List Int) (w : World) (htos : 0 ≤ tos ∧ tos ≤ 255) (hid : 0 ≤ id ∧ id ≤ 65535) (hfl : 0 ≤ fl ∧ fl ≤ 255) (hoff : 0 ≤ off ∧ off ≤ 65535) (httl : 0 ≤ ttl ∧ ttl ≤ 255) (hpr : 0 ≤ pr ∧ pr ≤ 255) (hsrc : 0 ≤ src ∧ src ≤ 4294967295) (hdst : 0 ≤ dst ∧ dst ≤ 4294967295) (hol : o.length ≤ 40) (hbl : b.length ≤ 65535) (bF : Byt F) (hF : full o = F) (hm : 20 + (F.length : Int) = m) (hT : m + (b.length : Int) = T) (hT1 : T ≤ 65535) (hP : fl * 8192 + off = P) (hfl7 : fl ≤ 7) (hoff13 : off ≤ 8191)
    (byts : Byt (b0 :: tos :: t1 :: t0 :: i1 :: i0 :: p1 :: p0 :: ttl :: pr :: s3 :: s2 :: s1 :: s0 :: e3 :: e2 :: e1 :: e0 :: F)) (hc : sumS (b0 :: tos :: t1 :: t0 :: i1 :: i0 :: p1 :: p0 :: ttl :: pr :: s3 :: s2 :: s1 :: s0 :: e3 :: e2 :: e1 :: e0 :: F) = c)
    (r1 : blr 1 (64 + m / 4) [] = [b0]) (r2 : blr 1 tos [] = [tos]) (r3 : blr 2 T [] = [t1, t0]) (r4 : blr 2 id [] = [i1, i0]) (r5 : blr 2 P [] = [p1, p0]) (r6 : blr 1 ttl [] = [ttl]) (r7 : blr 1 pr [] = [pr]) (r8 : blr 4 src [] = [s3, s2, s1, s0]) (r9 : blr 4 dst [] = [e3, e2, e1, e0]) (r10 : blr 2 (65535 - c) [] = [c1, c0]) :
    Calls Try.prog 31 #[.agg #[.int .u8 tos, .int .u16 id, .int .u8 fl, .int .u16 off, .int .u8 ttl, .int .u8 pr, .int .u32 src, .int .u32 dst, SV o], SV b] w fun e w' => e = .returned (SV (b0 :: tos :: t1 :: t0 :: i1 :: i0 :: p1 :: p0 :: ttl :: pr :: c1 :: c0 :: s3 :: s2 :: s1 :: s0 :: e3 :: e2 :: e1 :: e0 :: (F ++ b))) ∧ Below w.heap.size w w' := by
  have HF := hide hF; have HC := hide hc; have HB := hide byts
  have R1 := hide r1; have R2 := hide r2; have R3 := hide r3; have R4 := hide r4; have R5 := hide r5; have R6 := hide r6; have R7 := hide r7; have R8 := hide r8; have R9 := hide r9; have R10 := hide r10
  have hFl := full_len o
  rw [hF] at hFl
  have hc0 := csum_rng (wk_rng byts (b0 :: tos :: t1 :: t0 :: i1 :: i0 :: p1 :: p0 :: ttl :: pr :: s3 :: s2 :: s1 :: s0 :: e3 :: e2 :: e1 :: e0 :: F).length).1
  rw [show csum (wk (b0 :: tos :: t1 :: t0 :: i1 :: i0 :: p1 :: p0 :: ttl :: pr :: s3 :: s2 :: s1 :: s0 :: e3 :: e2 :: e1 :: e0 :: F) (b0 :: tos :: t1 :: t0 :: i1 :: i0 :: p1 :: p0 :: ttl :: pr :: s3 :: s2 :: s1 :: s0 :: e3 :: e2 :: e1 :: e0 :: F).length) = c from hc] at hc0
  have hml : 20 ≤ m ∧ m ≤ 63 := by omega
  have hq : m.tdiv 4 = m / 4 := Int.tdiv_eq_ediv_of_nonneg (by omega)
  have hFn : F.length ≤ 43 := by omega
  have ks := sv_size
  have ka := strOf_app
  clear hF hc byts r1 r2 r3 r4 r5 r6 r7 r8 r9 r10
  go_enter Try.func31, Try.ntmps31
  go_wp2_with fail
  refine (ipFull o F _ (by omega) HF.out).mono ?_
  rintro e w1 ⟨rfl, hb1⟩
  have A1 : Blk w1 (w.heap.size) #[.int .u8 tos, .int .u16 id, .int .u8 fl, .int .u16 off, .int .u8 ttl, .int .u8 pr, .int .u32 src, .int .u32 dst, SV o] 65 := Blk.below (by (repeat' (first | (with_reducible (first | assumption | exact Blk.alloc_new _ _ _ (by first | rfl | (simp; done) | omega) | apply Blk.drewN | apply Blk.drew | apply Blk.alloc_old | apply Blk.set_same | apply Blk.set_other)) | (show (_ : Nat) ≠ _; first | omega | (simp; done) | (simp; omega)) | ((simp only [List.setIfInBounds_toArray, List.set_cons_succ, List.set_cons_zero]); (with_reducible exact rfl)) | (with_reducible exact rfl) | (show (_ : Array Value) = _; exact rfl)))) hb1 (by first | (simp; done) | omega | (simp; omega))
  have g1 : Below w.heap.size w w1 := by refine Below.trans ?_ (hb1.mono ?_) <;> (repeat' (first | (with_reducible (first | exact Below.refl _ _ | assumption | refine below_drewN ?_ _ | refine Below.drew ?_ | refine Below.alloc ?_ ?_ _ | refine Below.setCell ?_ ?_ _)) | go_size))
  have hz1 := hb1.size
  (try simp at hz1)
  clear hb1
  replace cA := A1.cell
  replace fA := A1.frozen
  replace zA := A1.size
  go_wp2_with fail
  refine wp_forget (fun v => Below w.heap.size w v ∧ Blk v (w.heap.size) #[.int .u8 tos, .int .u16 id, .int .u8 fl, .int .u16 off, .int .u8 ttl, .int .u8 pr, .int .u32 src, .int .u32 dst, SV o] 65) ⟨by (repeat' (first | (with_reducible (first | exact Below.refl _ _ | assumption | refine below_drewN ?_ _ | refine Below.drew ?_ | refine Below.alloc ?_ ?_ _ | refine Below.setCell ?_ ?_ _)) | go_size)), by (repeat' (first | (with_reducible (first | assumption | exact Blk.alloc_new _ _ _ (by first | rfl | (simp; done) | omega) | apply Blk.drewN | apply Blk.drew | apply Blk.alloc_old | apply Blk.set_same | apply Blk.set_other)) | (show (_ : Nat) ≠ _; first | omega | (simp; done) | (simp; omega)) | ((simp only [List.setIfInBounds_toArray, List.set_cons_succ, List.set_cons_zero]); (with_reducible exact rfl)) | (with_reducible exact rfl) | (show (_ : Array Value) = _; exact rfl)))⟩ ?_
  rintro v2 ⟨gv2, Av2⟩
  have qA2 := blk_calm Av2
  refine wp_region_quiet_below (by kernel_rfl) (by kernel_rfl) ?_
  repeat (go_big_quiet_step ((first
      | (go_at_call 43; (with_reducible exact Calls.regrown_of (ipBytes (64 + m / 4) 1 1 [b0] _ rfl (by omega) (by omega) R1.out)))
      | (go_at_call 43; (with_reducible exact Calls.regrown_of (ipBytes tos 1 1 [tos] _ rfl (by omega) (by omega) R2.out)))
      | (go_at_call 43; (with_reducible exact Calls.regrown_of (ipBytes T 2 2 [t1, t0] _ rfl (by omega) (by omega) R3.out)))
      | (go_at_call 43; (with_reducible exact Calls.regrown_of (ipBytes id 2 2 [i1, i0] _ rfl (by omega) (by omega) R4.out)))
      | (go_at_call 43; (with_reducible exact Calls.regrown_of (ipBytes P 2 2 [p1, p0] _ rfl (by omega) (by omega) R5.out)))
      | (go_at_call 43; (with_reducible exact Calls.regrown_of (ipBytes ttl 1 1 [ttl] _ rfl (by omega) (by omega) R6.out)))
      | (go_at_call 43; (with_reducible exact Calls.regrown_of (ipBytes pr 1 1 [pr] _ rfl (by omega) (by omega) R7.out))))))
  refine wpQuiet_nil ?_
  intro _ hw'
  obtain ⟨pq, hw''⟩ := hw'
  subst hw''
  have hb2 := below_regrown v2 pq.d pq.os
  generalize Sort.grow (redrawn v2 pq.d) pq.os = w2 at *
  have A2 : Blk w2 (w.heap.size) #[.int .u8 tos, .int .u16 id, .int .u8 fl, .int .u16 off, .int .u8 ttl, .int .u8 pr, .int .u32 src, .int .u32 dst, SV o] 65 := Blk.below Av2 hb2 Av2.size
  have g2 : Below w.heap.size w w2 := gv2.trans (hb2.mono gv2.size)
  have hz2 : w.heap.size ≤ w2.heap.size := g2.size
  clear hb2 gv2 Av2 qA2
  replace cA := A2.cell
  replace fA := A2.frozen
  replace zA := A2.size
  go_wp2_with fail
  refine wp_forget (fun v => Below w.heap.size w v ∧ Blk v (w.heap.size) #[.int .u8 tos, .int .u16 id, .int .u8 fl, .int .u16 off, .int .u8 ttl, .int .u8 pr, .int .u32 src, .int .u32 dst, SV o] 65) ⟨by (repeat' (first | (with_reducible (first | exact Below.refl _ _ | assumption | refine below_drewN ?_ _ | refine Below.drew ?_ | refine Below.alloc ?_ ?_ _ | refine Below.setCell ?_ ?_ _)) | go_size)), by (repeat' (first | (with_reducible (first | assumption | exact Blk.alloc_new _ _ _ (by first | rfl | (simp; done) | omega) | apply Blk.drewN | apply Blk.drew | apply Blk.alloc_old | apply Blk.set_same | apply Blk.set_other)) | (show (_ : Nat) ≠ _; first | omega | (simp; done) | (simp; omega)) | ((simp only [List.setIfInBounds_toArray, List.set_cons_succ, List.set_cons_zero]); (with_reducible exact rfl)) | (with_reducible exact rfl) | (show (_ : Array Value) = _; exact rfl)))⟩ ?_
  rintro v3 ⟨gv3, Av3⟩
  have qA3 := blk_calm Av3
  refine wp_region_quiet_below (by kernel_rfl) (by kernel_rfl) ?_
  repeat (go_big_quiet_step ((first
      | (go_at_call 43; (with_reducible exact Calls.regrown_of (ipBytes src 4 4 [s3, s2, s1, s0] _ rfl (by omega) (by omega) R8.out)))
      | (go_at_call 43; (with_reducible exact Calls.regrown_of (ipBytes dst 4 4 [e3, e2, e1, e0] _ rfl (by omega) (by omega) R9.out))))))
  refine wpQuiet_nil ?_
  intro _ hw'
  obtain ⟨pq, hw''⟩ := hw'
  subst hw''
  have hb3 := below_regrown v3 pq.d pq.os
  generalize Sort.grow (redrawn v3 pq.d) pq.os = w3 at *
  have A3 : Blk w3 (w.heap.size) #[.int .u8 tos, .int .u16 id, .int .u8 fl, .int .u16 off, .int .u8 ttl, .int .u8 pr, .int .u32 src, .int .u32 dst, SV o] 65 := Blk.below Av3 hb3 Av3.size
  have g3 : Below w.heap.size w w3 := gv3.trans (hb3.mono gv3.size)
  have hz3 : w.heap.size ≤ w3.heap.size := g3.size
  clear hb3 gv3 Av3 qA3
  replace cA := A3.cell
  replace fA := A3.frozen
  replace zA := A3.size
  go_wp2_with fail
  refine (ipRSum (b0 :: tos :: t1 :: t0 :: i1 :: i0 :: p1 :: p0 :: ttl :: pr :: s3 :: s2 :: s1 :: s0 :: e3 :: e2 :: e1 :: e0 :: F) _ HB.out (by simp; omega) c HC.out).mono ?_
  rintro e u4 ⟨rfl, rfl⟩
  go_wp2_with fail
  refine (ipBytes (65535 - c) 2 2 [c1, c0] _ rfl (by omega) (by omega) R10.out).mono ?_
  rintro e w5 ⟨rfl, hb5⟩
  have g5 : Below w.heap.size w w5 := by refine Below.trans ?_ (hb5.mono ?_) <;> (repeat' (first | (with_reducible (first | exact Below.refl _ _ | assumption | refine below_drewN ?_ _ | refine Below.drew ?_ | refine Below.alloc ?_ ?_ _ | refine Below.setCell ?_ ?_ _)) | go_size))
  have hz5 := hb5.size
  (try simp at hz5)
  clear hb5
  go_wp2
  go_ret
  exact ⟨rfl, by (repeat' (first | (with_reducible (first | exact Below.refl _ _ | assumption | refine below_drewN ?_ _ | refine Below.drew ?_ | refine Below.alloc ?_ ?_ _ | refine Below.setCell ?_ ?_ _)) | go_size))⟩
end Go.Proofs.Ytldahcfggeebgaa
