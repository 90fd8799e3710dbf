/-
  The walk of ipv4.Encode. Conditions: fields in range.
-/
import Derived.Test.YtljpiofpfankoaaIpC
import Derived.Test.YtljpiofpfankoaaIpR
import Derived.Test.YtljpiofpfankoaaGuar
import Derived.Deep.RegionHeld3
import Derived.Deep.CutRange
import Derived.Deep.DeepCutAuto
namespace Go.Proofs.Ytljpiofpfankoaa
open Go.RowKit Go.Sort
set_option linter.unusedVariables false
set_option linter.unusedSimpArgs false
theorem ipTwoC (v a b : Int) (w : World) (h : 0 ≤ v ∧ v ≤ 65535) (ha : v / 256 = a) (hb : v % 256 = b) :
    Calls Try.prog 55 #[.int .u16 v] w fun e w' => e = .returned (SV [a, b]) ∧ Below w.heap.size w w' := by
  subst ha hb; exact ipTwo v w h
theorem ipFourC (v a b c d : Int) (w : World) (h : 0 ≤ v ∧ v ≤ 4294967295) (ha : v / 16777216 = a) (hb : v / 65536 % 256 = b) (hc : v / 256 % 256 = c) (hd : v % 256 = d) :
    Calls Try.prog 56 #[.int .u32 v] w fun e w' => e = .returned (SV [a, b, c, d]) ∧ Below w.heap.size w w' := by
  subst ha hb hc hd; exact ipFour v w h
theorem ipRepeatL (c : Int) (k : Nat) (w : World) (hc : c = (k : Int)) (hk : k ≤ 3) (G : List Int) (hG : List.replicate k 0 = G) :
    Calls Try.prog 54 #[.string ⟨#[0]⟩, .int .i64 c] w fun e w' => e = .returned (SV G) ∧ Below w.heap.size w w' := by
  subst hG; exact ipRepeat c k w hc hk
theorem bor13 {x y : Int} (h0 : 0 ≤ x) (h1 : x ≤ 7) (h2 : 0 ≤ y) (h3 : y ≤ 8191) : bits BinOp.or IntKind.u16 (x * 8192) y = x * 8192 + y :=
  bits_join .u16 16 (by decide) (fun n h0 h1 => by simp [IntKind.wrap, IntKind.bits, IntKind.signed]; omega) 13 _ _ (by omega) (by show _ % 8192 = _; omega) (by show _ < (65536 : Int); omega) h2 (by show _ < (8192 : Int); omega) (by show _ < (65536 : Int); omega)
set_option maxRecDepth 100000 in
set_option maxHeartbeats 8000000 in
theorem ipEncode_ok (tos id fl off ttl pr src dst m T P c cc b0 t1 t0 i1 i0 p1 p0 s3 s2 s1 s0 e3 e2 e1 e0 c1 c0 : Int) (o b F G : List Int) (k : Nat) (w : World) (htos : 0 ≤ tos ∧ tos ≤ 255) (hid : 0 ≤ id ∧ id ≤ 65535) (hfl : 0 ≤ fl ∧ fl ≤ 255) (hoff : 0 ≤ off ∧ off ≤ 65535) (httl : 0 ≤ ttl ∧ ttl ≤ 255) (hpr : 0 ≤ pr ∧ pr ≤ 255) (hsrc : 0 ≤ src ∧ src ≤ 4294967295) (hdst : 0 ≤ dst ∧ dst ≤ 4294967295) (hol : o.length ≤ 40) (hbl : b.length ≤ 65535) (hk : k ≤ 3) (hk4 : (4 - (o.length : Int) % 4) % 4 = (k : Int)) (hG : List.replicate k (0 : Int) = G) (hF : o ++ G = F) (hm : 20 + (F.length : Int) = m) (hml : 20 ≤ m ∧ m ≤ 60) (hd4 : ¬ 65535 - m < (b.length : Int)) (hT : m + (b.length : Int) = T) (hP : fl * 8192 + off = P) (hfl7 : fl ≤ 7) (hoff13 : off ≤ 8191)
    (byts : Byt (b0 :: tos :: t1 :: t0 :: i1 :: i0 :: p1 :: p0 :: ttl :: pr :: s3 :: s2 :: s1 :: s0 :: e3 :: e2 :: e1 :: e0 :: F)) (hc : sumS (b0 :: tos :: t1 :: t0 :: i1 :: i0 :: p1 :: p0 :: ttl :: pr :: s3 :: s2 :: s1 :: s0 :: e3 :: e2 :: e1 :: e0 :: F) = c) (hc9 : 65535 - c = cc)
    (r1 : 64 + m / 4 = b0) (r3 : T / 256 = t1) (r3' : T % 256 = t0) (r4 : id / 256 = i1) (r4' : id % 256 = i0) (r5 : P / 256 = p1) (r5' : P % 256 = p0) (r8a : src / 16777216 = s3) (r8b : src / 65536 % 256 = s2) (r8c : src / 256 % 256 = s1) (r8d : src % 256 = s0) (r9a : dst / 16777216 = e3) (r9b : dst / 65536 % 256 = e2) (r9c : dst / 256 % 256 = e1) (r9d : dst % 256 = e0) (r10 : cc / 256 = c1) (r10' : cc % 256 = c0) :
    Calls Try.prog 31 #[.agg #[.int .u8 tos, .int .u16 id, .int .u8 fl, .int .u16 off, .int .u8 ttl, .int .u8 pr, .int .u32 src, .int .u32 dst, SV o], SV b] w fun e w' => e = .returned (.tuple #[SV (b0 :: tos :: t1 :: t0 :: i1 :: i0 :: p1 :: p0 :: ttl :: pr :: c1 :: c0 :: s3 :: s2 :: s1 :: s0 :: e3 :: e2 :: e1 :: e0 :: (F ++ b)), .int .i64 0]) ∧ Below w.heap.size w w' := by
  have HC := hide hc; have HB := hide byts; have HG := hide hG
  have hc0 := csum_rng (wk_rng byts (b0 :: tos :: t1 :: t0 :: i1 :: i0 :: p1 :: p0 :: ttl :: pr :: s3 :: s2 :: s1 :: s0 :: e3 :: e2 :: e1 :: e0 :: F).length).1
  rw [show csum (wk (b0 :: tos :: t1 :: t0 :: i1 :: i0 :: p1 :: p0 :: ttl :: pr :: s3 :: s2 :: s1 :: s0 :: e3 :: e2 :: e1 :: e0 :: F) (b0 :: tos :: t1 :: t0 :: i1 :: i0 :: p1 :: p0 :: ttl :: pr :: s3 :: s2 :: s1 :: s0 :: e3 :: e2 :: e1 :: e0 :: F).length) = c from hc] at hc0
  have hT1 : 0 ≤ T ∧ T ≤ 65535 := by omega
  have hP1 : 0 ≤ P ∧ P ≤ 65535 := by omega
  have hb0r : 0 ≤ b0 ∧ b0 ≤ 255 := by omega
  have hcr : 0 ≤ cc ∧ cc ≤ 65535 := by omega
  have hFn : F.length ≤ 43 := by omega
  have hGn : G.length ≤ 3 := by rw [← hG, List.length_replicate]; exact hk
  have hq : m.tdiv 4 = m / 4 := Int.tdiv_eq_ediv_of_nonneg (by omega)
  have hk5 : ((4 : Int) - (o.length : Int) % 4).tmod 4 = (k : Int) := by rw [Int.tmod_eq_emod_of_nonneg (by omega)]; exact hk4
  have d1 : decide (7 < fl) = false := decide_eq_false (by omega)
  have d2 : decide (8192 ≤ off) = false := decide_eq_false (by omega)
  have d3 : decide ((40 : Int) < (o.length : Int)) = false := decide_eq_false (by omega)
  have d4 : decide ((65535 : Int) - m < (b.length : Int)) = false := decide_eq_false hd4
  have ho := bor13 hfl.1 hfl7 hoff.1 hoff13
  rw [hP] at ho
  have ks := sv_size
  have ka := strOf_app
  have ki := intOf_int
  have R1 := hide r1; have R3 := hide r3; have R3' := hide r3'; have R4 := hide r4; have R4' := hide r4'; have R5 := hide r5; have R5' := hide r5'
  have R8a := hide r8a; have R8b := hide r8b; have R8c := hide r8c; have R8d := hide r8d; have R9a := hide r9a; have R9b := hide r9b; have R9c := hide r9c; have R9d := hide r9d; have R10 := hide r10; have R10' := hide r10'
  clear hc byts r3 r3' r4 r4' r5 r5' r8a r8b r8c r8d r9a r9b r9c r9d r10 r10' hG
  go_enter Try.func31, Try.ntmps31
  go_wp2_with fail
  refine wp_forget (fun v => Below w.heap.size w v ∧ Blk v (w.heap.size) #[.int .u8 tos, .int .u16 id, .int .u8 fl, .int .u16 off, .int .u8 ttl, .int .u8 pr, .int .u32 src, .int .u32 dst, SV o] 70) ⟨by (repeat' (first | (with_reducible (first | exact Below.refl _ _ | assumption | refine below_drewN ?_ _ | refine Below.drew ?_ | refine Below.alloc ?_ ?_ _ | refine Below.setCell ?_ ?_ _)) | go_size)), by (repeat' (first | (with_reducible (first | assumption | exact Blk.alloc_new _ _ _ (by first | rfl | (simp; done) | omega) | apply Blk.drewN | apply Blk.drew | apply Blk.alloc_old | apply Blk.set_same | apply Blk.set_other)) | (show (_ : Nat) ≠ _; first | omega | (simp; done) | (simp; omega)) | ((simp only [List.setIfInBounds_toArray, List.set_cons_succ, List.set_cons_zero]); (with_reducible exact rfl)) | (with_reducible exact rfl) | (show (_ : Array Value) = _; exact rfl)))⟩ ?_
  rintro v1 ⟨gv1, Av1⟩
  have qA1 := blk_calm Av1
  refine wp_region_quiet_below (by kernel_rfl) (by kernel_rfl) ?_
  repeat (go_big_quiet_step ((first
      | (go_at_call 54; (with_reducible exact Calls.regrown_of (ipRepeatL (k : Int) k _ rfl hk G HG.out))))))
  refine wpQuiet_nil ?_
  intro _ hw'
  obtain ⟨pq, hw''⟩ := hw'
  subst hw''
  have hb1 := below_regrown v1 pq.d pq.os
  generalize Sort.grow (redrawn v1 pq.d) pq.os = w1 at *
  have A1 : Blk w1 (w.heap.size) #[.int .u8 tos, .int .u16 id, .int .u8 fl, .int .u16 off, .int .u8 ttl, .int .u8 pr, .int .u32 src, .int .u32 dst, SV o] 70 := Blk.below Av1 hb1 Av1.size
  have g1 : Below w.heap.size w w1 := gv1.trans (hb1.mono gv1.size)
  have hz1 : w.heap.size ≤ w1.heap.size := g1.size
  clear hb1 gv1 Av1 qA1
  replace cA := A1.cell
  replace fA := A1.frozen
  replace zA := A1.size
  go_upto_region 7 with (fail)
  refine wp_forget (fun v => Below w.heap.size w v ∧ Blk v (w.heap.size) #[.int .u8 tos, .int .u16 id, .int .u8 fl, .int .u16 off, .int .u8 ttl, .int .u8 pr, .int .u32 src, .int .u32 dst, SV o] 70) ⟨by (repeat' (first | (with_reducible (first | exact Below.refl _ _ | assumption | refine below_drewN ?_ _ | refine Below.drew ?_ | refine Below.alloc ?_ ?_ _ | refine Below.setCell ?_ ?_ _)) | go_size)), by (repeat' (first | (with_reducible (first | assumption | exact Blk.alloc_new _ _ _ (by first | rfl | (simp; done) | omega) | apply Blk.drewN | apply Blk.drew | apply Blk.alloc_old | apply Blk.set_same | apply Blk.set_other)) | (show (_ : Nat) ≠ _; first | omega | (simp; done) | (simp; omega)) | ((simp only [List.setIfInBounds_toArray, List.set_cons_succ, List.set_cons_zero]); (with_reducible exact rfl)) | (with_reducible exact rfl) | (show (_ : Array Value) = _; exact rfl)))⟩ ?_
  rintro w2 ⟨g2, A2⟩
  have hz2 := g2.size
  replace cA := A2.cell
  replace fA := A2.frozen
  replace zA := A2.size
  have k2 := kconv2
  have hw1 : IntKind.i64.wrap (m / 4) = m / 4 := IntWalk.i64_in _ ⟨by omega, by omega⟩
  have hw2 : IntKind.i64.wrap b0 = b0 := IntWalk.i64_in _ ⟨by omega, by omega⟩
  have hw3 : IntKind.u8.wrap b0 = b0 := by rw [IntKind.wrap_u8]; omega
  have hw4 : IntKind.i64.wrap T = T := IntWalk.i64_in _ ⟨by omega, by omega⟩
  have hw5 : IntKind.u16.wrap T = T := by simp [IntKind.wrap, IntKind.bits, IntKind.signed]; omega
  have hw6 : IntKind.u16.wrap fl = fl := by simp [IntKind.wrap, IntKind.bits, IntKind.signed]; omega
  have hw7 : IntKind.u16.wrap (fl * 8192) = fl * 8192 := by simp [IntKind.wrap, IntKind.bits, IntKind.signed]; omega
  have AG := A2
  go_cut [8] (fun s8 wx => s8 = SV ([b0, tos, t1, t0, i1, i0, p1, p0, ttl, pr]) ∧ Below w.heap.size w wx ∧ Blk wx (w.heap.size) #[.int .u8 tos, .int .u16 id, .int .u8 fl, .int .u16 off, .int .u8 ttl, .int .u8 pr, .int .u32 src, .int .u32 dst, SV o] 70)
  case first =>
    refine wp_region_guar [.val (.int .i64 (m)), .val (.int .i64 (m / 4)), .val (.int .i64 (b0)), .val (.int .u8 (b0)), .val (.pointer (some ⟨w.heap.size, 0, none⟩)), .val (.int .u8 (tos)), .cells #[.int .u8 b0, .int .u8 tos] 5, .val (SV [b0, tos]), .val (.int .i64 (m)), .val (SV b), .val (.int .i64 ((b.length : Int))), .val (.int .i64 (T)), .val (.int .u16 (T)), .val (SV [t1, t0]), .val (SV [b0, tos, t1, t0]), .val (.pointer (some ⟨w.heap.size, 1, none⟩)), .val (.int .u16 (id)), .val (SV [i1, i0]), .val (SV [b0, tos, t1, t0, i1, i0]), .val (.pointer (some ⟨w.heap.size, 2, none⟩)), .val (.int .u8 (fl)), .val (.int .u16 (fl)), .val (.int .u16 (fl * 8192)), .val (.pointer (some ⟨w.heap.size, 3, none⟩)), .val (.int .u16 (off)), .val (.int .u16 (P)), .val (SV [p1, p0]), .val (SV [b0, tos, t1, t0, i1, i0, p1, p0]), .val (.pointer (some ⟨w.heap.size, 4, none⟩)), .val (.int .u8 (ttl)), .val (.pointer (some ⟨w.heap.size, 5, none⟩)), .val (.int .u8 (pr)), .cells #[.int .u8 ttl, .int .u8 pr] 5, .val (SV [ttl, pr]), .val (SV [b0, tos, t1, t0, i1, i0, p1, p0, ttl, pr]), .val (SV [b0, tos, t1, t0, i1, i0, p1, p0, ttl, pr])] (by kernel_rfl) (by kernel_rfl) ?_ ?_
    · refine ⟨?_, ?_, ?_, ?_, ?_, ?_, ?_, ?_, ?_, ?_, ?_, ?_, ?_, ?_, ?_, ?_, ?_, ?_, ?_, ?_, ?_, ?_, ?_, ?_, ?_, ?_, ?_, ?_, ?_, ?_, ?_, ?_, ?_, ?_, ?_, ?_, trivial⟩
      · intro a v c
        have e7 : a.eval (.tmp 7) = .int .i64 m := (c.off 7 (by kernel_rfl)).trans rfl
        have f7 := (eval_opt a 7).trans e7
        refine gval (.int .i64 (m)) (by simp only [execOp, e7]; go_simp) rfl
      · intro a v c
        have e42 : a.eval (.tmp 42) = .int .i64 (m) := c.dep 0 _ 42 (by kernel_rfl) rfl rfl
        have f42 := (eval_opt a 42).trans e42
        refine gval (.int .i64 (m / 4)) (by simp only [execOp, e42]; go_simp) rfl
      · intro a v c
        have e43 : a.eval (.tmp 43) = .int .i64 (m / 4) := c.dep 1 _ 43 (by kernel_rfl) rfl rfl
        have f43 := (eval_opt a 43).trans e43
        refine gval (.int .i64 (b0)) (by simp only [execOp, e43]; go_simp) rfl
      · intro a v c
        have e44 : a.eval (.tmp 44) = .int .i64 (b0) := c.dep 2 _ 44 (by kernel_rfl) rfl rfl
        have f44 := (eval_opt a 44).trans e44
        refine gval (.int .u8 (b0)) (by simp only [execOp, e44]; go_simp) rfl
      · intro a v c
        have e2 : a.eval (.tmp 2) = .pointer (some ⟨w.heap.size, 0, none⟩) := (c.off 2 (by kernel_rfl)).trans rfl
        have f2 := (eval_opt a 2).trans e2
        refine gval (.pointer (some ⟨w.heap.size, 0, none⟩)) (by simp only [execOp, e2]; go_simp) rfl
      · intro a v c
        have e46 : a.eval (.tmp 46) = .pointer (some ⟨w.heap.size, 0, none⟩) := c.dep 4 _ 46 (by kernel_rfl) rfl rfl
        have f46 := (eval_opt a 46).trans e46
        have hA : Blk v (w.heap.size) #[.int .u8 tos, .int .u16 id, .int .u8 fl, .int .u16 off, .int .u8 ttl, .int .u8 pr, .int .u32 src, .int .u32 dst, SV o] 70 := Blk.below (Blk.drew AG) c.below (by simpa using AG.size)
        have cA := hA.cell
        refine gval (.int .u8 (tos)) (by simp only [execOp, e46]; go_simp) rfl
      · intro a v c
        have e45 : a.eval (.tmp 45) = .int .u8 (b0) := c.dep 3 _ 45 (by kernel_rfl) rfl rfl
        have e47 : a.eval (.tmp 47) = .int .u8 (tos) := c.dep 5 _ 47 (by kernel_rfl) rfl rfl
        have f45 := (eval_opt a 45).trans e45
        have f47 := (eval_opt a 47).trans e47
        refine gslice #[.int .u8 b0, .int .u8 tos] 5 rfl (by simp only [execOp, e45, e47]; go_simp)
      · intro a v c
        obtain ⟨B48, e48, hB48⟩ : ∃ b, a.eval (.tmp 48) = .slice (some ⟨b, 0, none⟩) 2 2 ∧ Blk v b #[.int .u8 b0, .int .u8 tos] 5 := c.dep 6 _ 48 (by kernel_rfl) rfl rfl
        have cB48 := hB48.cell
        have f48 := (eval_opt a 48).trans e48
        refine gval (SV [b0, tos]) (by simp only [execOp, e48]; go_simp) rfl
      · intro a v c
        have e7 : a.eval (.tmp 7) = .int .i64 m := (c.off 7 (by kernel_rfl)).trans rfl
        have f7 := (eval_opt a 7).trans e7
        refine gval (.int .i64 (m)) (by simp only [execOp, e7]; go_simp) rfl
      · intro a v c
        have e1 : a.eval (.tmp 1) = SV b := (c.off 1 (by kernel_rfl)).trans rfl
        have f1 := (eval_opt a 1).trans e1
        refine gval (SV b) (by simp only [execOp, e1]; go_simp) rfl
      · intro a v c
        have e51 : a.eval (.tmp 51) = SV b := c.dep 9 _ 51 (by kernel_rfl) rfl rfl
        have f51 := (eval_opt a 51).trans e51
        refine gval (.int .i64 ((b.length : Int))) (by simp only [execOp, e51]; go_simp) rfl
      · intro a v c
        have e50 : a.eval (.tmp 50) = .int .i64 (m) := c.dep 8 _ 50 (by kernel_rfl) rfl rfl
        have e52 : a.eval (.tmp 52) = .int .i64 ((b.length : Int)) := c.dep 10 _ 52 (by kernel_rfl) rfl rfl
        have f50 := (eval_opt a 50).trans e50
        have f52 := (eval_opt a 52).trans e52
        refine gval (.int .i64 (T)) (by simp only [execOp, e50, e52]; go_simp) rfl
      · intro a v c
        have e53 : a.eval (.tmp 53) = .int .i64 (T) := c.dep 11 _ 53 (by kernel_rfl) rfl rfl
        have f53 := (eval_opt a 53).trans e53
        refine gval (.int .u16 (T)) (by simp only [execOp, e53]; go_simp) rfl
      · intro a v c
        have e54 : a.eval (.tmp 54) = .int .u16 (T) := c.dep 12 _ 54 (by kernel_rfl) rfl rfl
        have f54 := (eval_opt a 54).trans e54
        refine gcall (SV [t1, t0]) 55 #[.int .u16 T] (by simp only [execOp, e54]; go_simp) (ipTwoC T t1 t0 _ hT1 R3.out R3'.out) (fun _ => rfl)
      · intro a v c
        have e49 : a.eval (.tmp 49) = SV [b0, tos] := c.dep 7 _ 49 (by kernel_rfl) rfl rfl
        have e55 : a.eval (.tmp 55) = SV [t1, t0] := c.dep 13 _ 55 (by kernel_rfl) rfl rfl
        have f49 := (eval_opt a 49).trans e49
        have f55 := (eval_opt a 55).trans e55
        refine gval (SV [b0, tos, t1, t0]) (by simp only [execOp, e49, e55]; go_simp) rfl
      · intro a v c
        have e2 : a.eval (.tmp 2) = .pointer (some ⟨w.heap.size, 0, none⟩) := (c.off 2 (by kernel_rfl)).trans rfl
        have f2 := (eval_opt a 2).trans e2
        refine gval (.pointer (some ⟨w.heap.size, 1, none⟩)) (by simp only [execOp, e2]; go_simp) rfl
      · intro a v c
        have e57 : a.eval (.tmp 57) = .pointer (some ⟨w.heap.size, 1, none⟩) := c.dep 15 _ 57 (by kernel_rfl) rfl rfl
        have f57 := (eval_opt a 57).trans e57
        have hA : Blk v (w.heap.size) #[.int .u8 tos, .int .u16 id, .int .u8 fl, .int .u16 off, .int .u8 ttl, .int .u8 pr, .int .u32 src, .int .u32 dst, SV o] 70 := Blk.below (Blk.drew AG) c.below (by simpa using AG.size)
        have cA := hA.cell
        refine gval (.int .u16 (id)) (by simp only [execOp, e57]; go_simp) rfl
      · intro a v c
        have e58 : a.eval (.tmp 58) = .int .u16 (id) := c.dep 16 _ 58 (by kernel_rfl) rfl rfl
        have f58 := (eval_opt a 58).trans e58
        refine gcall (SV [i1, i0]) 55 #[.int .u16 id] (by simp only [execOp, e58]; go_simp) (ipTwoC id i1 i0 _ hid R4.out R4'.out) (fun _ => rfl)
      · intro a v c
        have e56 : a.eval (.tmp 56) = SV [b0, tos, t1, t0] := c.dep 14 _ 56 (by kernel_rfl) rfl rfl
        have e59 : a.eval (.tmp 59) = SV [i1, i0] := c.dep 17 _ 59 (by kernel_rfl) rfl rfl
        have f56 := (eval_opt a 56).trans e56
        have f59 := (eval_opt a 59).trans e59
        refine gval (SV [b0, tos, t1, t0, i1, i0]) (by simp only [execOp, e56, e59]; go_simp) rfl
      · intro a v c
        have e2 : a.eval (.tmp 2) = .pointer (some ⟨w.heap.size, 0, none⟩) := (c.off 2 (by kernel_rfl)).trans rfl
        have f2 := (eval_opt a 2).trans e2
        refine gval (.pointer (some ⟨w.heap.size, 2, none⟩)) (by simp only [execOp, e2]; go_simp) rfl
      · intro a v c
        have e61 : a.eval (.tmp 61) = .pointer (some ⟨w.heap.size, 2, none⟩) := c.dep 19 _ 61 (by kernel_rfl) rfl rfl
        have f61 := (eval_opt a 61).trans e61
        have hA : Blk v (w.heap.size) #[.int .u8 tos, .int .u16 id, .int .u8 fl, .int .u16 off, .int .u8 ttl, .int .u8 pr, .int .u32 src, .int .u32 dst, SV o] 70 := Blk.below (Blk.drew AG) c.below (by simpa using AG.size)
        have cA := hA.cell
        refine gval (.int .u8 (fl)) (by simp only [execOp, e61]; go_simp) rfl
      · intro a v c
        have e62 : a.eval (.tmp 62) = .int .u8 (fl) := c.dep 20 _ 62 (by kernel_rfl) rfl rfl
        have f62 := (eval_opt a 62).trans e62
        refine gval (.int .u16 (fl)) (by simp only [execOp, e62]; go_simp) rfl
      · intro a v c
        have e63 : a.eval (.tmp 63) = .int .u16 (fl) := c.dep 21 _ 63 (by kernel_rfl) rfl rfl
        have f63 := (eval_opt a 63).trans e63
        refine gval (.int .u16 (fl * 8192)) (by simp only [execOp, e63]; go_simp) rfl
      · intro a v c
        have e2 : a.eval (.tmp 2) = .pointer (some ⟨w.heap.size, 0, none⟩) := (c.off 2 (by kernel_rfl)).trans rfl
        have f2 := (eval_opt a 2).trans e2
        refine gval (.pointer (some ⟨w.heap.size, 3, none⟩)) (by simp only [execOp, e2]; go_simp) rfl
      · intro a v c
        have e65 : a.eval (.tmp 65) = .pointer (some ⟨w.heap.size, 3, none⟩) := c.dep 23 _ 65 (by kernel_rfl) rfl rfl
        have f65 := (eval_opt a 65).trans e65
        have hA : Blk v (w.heap.size) #[.int .u8 tos, .int .u16 id, .int .u8 fl, .int .u16 off, .int .u8 ttl, .int .u8 pr, .int .u32 src, .int .u32 dst, SV o] 70 := Blk.below (Blk.drew AG) c.below (by simpa using AG.size)
        have cA := hA.cell
        refine gval (.int .u16 (off)) (by simp only [execOp, e65]; go_simp) rfl
      · intro a v c
        have e64 : a.eval (.tmp 64) = .int .u16 (fl * 8192) := c.dep 22 _ 64 (by kernel_rfl) rfl rfl
        have e66 : a.eval (.tmp 66) = .int .u16 (off) := c.dep 24 _ 66 (by kernel_rfl) rfl rfl
        have f64 := (eval_opt a 64).trans e64
        have f66 := (eval_opt a 66).trans e66
        refine gval (.int .u16 (P)) (by simp only [execOp, e64, e66]; go_simp) rfl
      · intro a v c
        have e67 : a.eval (.tmp 67) = .int .u16 (P) := c.dep 25 _ 67 (by kernel_rfl) rfl rfl
        have f67 := (eval_opt a 67).trans e67
        refine gcall (SV [p1, p0]) 55 #[.int .u16 P] (by simp only [execOp, e67]; go_simp) (ipTwoC P p1 p0 _ hP1 R5.out R5'.out) (fun _ => rfl)
      · intro a v c
        have e60 : a.eval (.tmp 60) = SV [b0, tos, t1, t0, i1, i0] := c.dep 18 _ 60 (by kernel_rfl) rfl rfl
        have e68 : a.eval (.tmp 68) = SV [p1, p0] := c.dep 26 _ 68 (by kernel_rfl) rfl rfl
        have f60 := (eval_opt a 60).trans e60
        have f68 := (eval_opt a 68).trans e68
        refine gval (SV [b0, tos, t1, t0, i1, i0, p1, p0]) (by simp only [execOp, e60, e68]; go_simp) rfl
      · intro a v c
        have e2 : a.eval (.tmp 2) = .pointer (some ⟨w.heap.size, 0, none⟩) := (c.off 2 (by kernel_rfl)).trans rfl
        have f2 := (eval_opt a 2).trans e2
        refine gval (.pointer (some ⟨w.heap.size, 4, none⟩)) (by simp only [execOp, e2]; go_simp) rfl
      · intro a v c
        have e70 : a.eval (.tmp 70) = .pointer (some ⟨w.heap.size, 4, none⟩) := c.dep 28 _ 70 (by kernel_rfl) rfl rfl
        have f70 := (eval_opt a 70).trans e70
        have hA : Blk v (w.heap.size) #[.int .u8 tos, .int .u16 id, .int .u8 fl, .int .u16 off, .int .u8 ttl, .int .u8 pr, .int .u32 src, .int .u32 dst, SV o] 70 := Blk.below (Blk.drew AG) c.below (by simpa using AG.size)
        have cA := hA.cell
        refine gval (.int .u8 (ttl)) (by simp only [execOp, e70]; go_simp) rfl
      · intro a v c
        have e2 : a.eval (.tmp 2) = .pointer (some ⟨w.heap.size, 0, none⟩) := (c.off 2 (by kernel_rfl)).trans rfl
        have f2 := (eval_opt a 2).trans e2
        refine gval (.pointer (some ⟨w.heap.size, 5, none⟩)) (by simp only [execOp, e2]; go_simp) rfl
      · intro a v c
        have e72 : a.eval (.tmp 72) = .pointer (some ⟨w.heap.size, 5, none⟩) := c.dep 30 _ 72 (by kernel_rfl) rfl rfl
        have f72 := (eval_opt a 72).trans e72
        have hA : Blk v (w.heap.size) #[.int .u8 tos, .int .u16 id, .int .u8 fl, .int .u16 off, .int .u8 ttl, .int .u8 pr, .int .u32 src, .int .u32 dst, SV o] 70 := Blk.below (Blk.drew AG) c.below (by simpa using AG.size)
        have cA := hA.cell
        refine gval (.int .u8 (pr)) (by simp only [execOp, e72]; go_simp) rfl
      · intro a v c
        have e71 : a.eval (.tmp 71) = .int .u8 (ttl) := c.dep 29 _ 71 (by kernel_rfl) rfl rfl
        have e73 : a.eval (.tmp 73) = .int .u8 (pr) := c.dep 31 _ 73 (by kernel_rfl) rfl rfl
        have f71 := (eval_opt a 71).trans e71
        have f73 := (eval_opt a 73).trans e73
        refine gslice #[.int .u8 ttl, .int .u8 pr] 5 rfl (by simp only [execOp, e71, e73]; go_simp)
      · intro a v c
        obtain ⟨B74, e74, hB74⟩ : ∃ b, a.eval (.tmp 74) = .slice (some ⟨b, 0, none⟩) 2 2 ∧ Blk v b #[.int .u8 ttl, .int .u8 pr] 5 := c.dep 32 _ 74 (by kernel_rfl) rfl rfl
        have cB74 := hB74.cell
        have f74 := (eval_opt a 74).trans e74
        refine gval (SV [ttl, pr]) (by simp only [execOp, e74]; go_simp) rfl
      · intro a v c
        have e69 : a.eval (.tmp 69) = SV [b0, tos, t1, t0, i1, i0, p1, p0] := c.dep 27 _ 69 (by kernel_rfl) rfl rfl
        have e75 : a.eval (.tmp 75) = SV [ttl, pr] := c.dep 33 _ 75 (by kernel_rfl) rfl rfl
        have f69 := (eval_opt a 69).trans e69
        have f75 := (eval_opt a 75).trans e75
        refine gval (SV [b0, tos, t1, t0, i1, i0, p1, p0, ttl, pr]) (by simp only [execOp, e69, e75]; go_simp) rfl
      · intro a v c
        have e76 : a.eval (.tmp 76) = SV [b0, tos, t1, t0, i1, i0, p1, p0, ttl, pr] := c.dep 34 _ 76 (by kernel_rfl) rfl rfl
        have f76 := (eval_opt a 76).trans e76
        refine gval (SV [b0, tos, t1, t0, i1, i0, p1, p0, ttl, pr]) (by simp only [execOp, e76]; go_simp) rfl
    · intro a v hb hd ho hs hf
      have e8 : a.eval (.tmp 8) = SV [b0, tos, t1, t0, i1, i0, p1, p0, ttl, pr] := hd 35 _ 8 rfl rfl
      have gB : Below w.heap.size w v := g2.trans (hb.mono g2.size)
      have AB : Blk v (w.heap.size) #[.int .u8 tos, .int .u16 id, .int .u8 fl, .int .u16 off, .int .u8 ttl, .int .u8 pr, .int .u32 src, .int .u32 dst, SV o] 70 := Blk.below A2 hb A2.size
      rw [frame_eta a 98 hs, hf]
      simp only [List.range, List.range.loop, List.map_cons, List.map_nil, e8, ho 0 (by kernel_rfl), ho 1 (by kernel_rfl), ho 2 (by kernel_rfl), ho 3 (by kernel_rfl), ho 4 (by kernel_rfl), ho 5 (by kernel_rfl), ho 6 (by kernel_rfl), ho 7 (by kernel_rfl), ho 9 (by kernel_rfl), ho 10 (by kernel_rfl), ho 11 (by kernel_rfl), ho 12 (by kernel_rfl), ho 13 (by kernel_rfl), ho 14 (by kernel_rfl), ho 15 (by kernel_rfl), ho 16 (by kernel_rfl), ho 17 (by kernel_rfl), ho 18 (by kernel_rfl), ho 19 (by kernel_rfl), ho 20 (by kernel_rfl), ho 21 (by kernel_rfl), ho 22 (by kernel_rfl), ho 23 (by kernel_rfl), ho 24 (by kernel_rfl), ho 25 (by kernel_rfl), ho 26 (by kernel_rfl), ho 27 (by kernel_rfl), ho 28 (by kernel_rfl), ho 29 (by kernel_rfl), ho 30 (by kernel_rfl), ho 31 (by kernel_rfl), ho 32 (by kernel_rfl), ho 33 (by kernel_rfl), ho 34 (by kernel_rfl), ho 35 (by kernel_rfl), ho 36 (by kernel_rfl), ho 37 (by kernel_rfl), ho 38 (by kernel_rfl), ho 39 (by kernel_rfl), ho 40 (by kernel_rfl), ho 41 (by kernel_rfl), ho 77 (by kernel_rfl), ho 78 (by kernel_rfl), ho 79 (by kernel_rfl), ho 80 (by kernel_rfl), ho 81 (by kernel_rfl), ho 82 (by kernel_rfl), ho 83 (by kernel_rfl), ho 84 (by kernel_rfl), ho 85 (by kernel_rfl), ho 86 (by kernel_rfl), ho 87 (by kernel_rfl), ho 88 (by kernel_rfl), ho 89 (by kernel_rfl), ho 90 (by kernel_rfl), ho 91 (by kernel_rfl), ho 92 (by kernel_rfl), ho 93 (by kernel_rfl), ho 94 (by kernel_rfl), ho 95 (by kernel_rfl), ho 96 (by kernel_rfl), ho 97 (by kernel_rfl)]
      clear hd ho hf hs e8 hb
      generalize a.eval (.tmp 42) = u42; generalize a.eval (.tmp 43) = u43; generalize a.eval (.tmp 44) = u44; generalize a.eval (.tmp 45) = u45; generalize a.eval (.tmp 46) = u46; generalize a.eval (.tmp 47) = u47; generalize a.eval (.tmp 48) = u48; generalize a.eval (.tmp 49) = u49; generalize a.eval (.tmp 50) = u50; generalize a.eval (.tmp 51) = u51; generalize a.eval (.tmp 52) = u52; generalize a.eval (.tmp 53) = u53; generalize a.eval (.tmp 54) = u54; generalize a.eval (.tmp 55) = u55; generalize a.eval (.tmp 56) = u56; generalize a.eval (.tmp 57) = u57; generalize a.eval (.tmp 58) = u58; generalize a.eval (.tmp 59) = u59; generalize a.eval (.tmp 60) = u60; generalize a.eval (.tmp 61) = u61; generalize a.eval (.tmp 62) = u62; generalize a.eval (.tmp 63) = u63; generalize a.eval (.tmp 64) = u64; generalize a.eval (.tmp 65) = u65; generalize a.eval (.tmp 66) = u66; generalize a.eval (.tmp 67) = u67; generalize a.eval (.tmp 68) = u68; generalize a.eval (.tmp 69) = u69; generalize a.eval (.tmp 70) = u70; generalize a.eval (.tmp 71) = u71; generalize a.eval (.tmp 72) = u72; generalize a.eval (.tmp 73) = u73; generalize a.eval (.tmp 74) = u74; generalize a.eval (.tmp 75) = u75; generalize a.eval (.tmp 76) = u76
      clear a
      have cA := AB.cell; have fA := AB.frozen; have zA := AB.size
      go_simp
      go_wp2_with fail
      go_meet
      exact ⟨rfl, by (repeat' (first | (with_reducible (first | exact Below.refl _ _ | assumption | refine below_drewN ?_ _ | refine Below.drew ?_ | refine Below.alloc ?_ ?_ _ | refine Below.setCell ?_ ?_ _)) | go_size)), by (repeat' (first | (with_reducible (first | assumption | exact Blk.alloc_new _ _ _ (by first | rfl | (simp; done) | omega) | apply Blk.drewN | apply Blk.drew | apply Blk.alloc_old | apply Blk.set_same | apply Blk.set_other)) | (show (_ : Nat) ≠ _; first | omega | (simp; done) | (simp; omega)) | ((simp only [List.setIfInBounds_toArray, List.set_cons_succ, List.set_cons_zero]); (with_reducible exact rfl)) | (with_reducible exact rfl) | (show (_ : Array Value) = _; exact rfl)))⟩
  case rest =>
    obtain ⟨rfl, g3, A3⟩ := hcut
    clear cA fA zA
    have cA := A3.cell; have fA := A3.frozen; have zA := A3.size
    have hz3 := g3.size
    go_wp2_with fail
    refine wp_forget (fun v => Below w.heap.size w v ∧ Blk v (w.heap.size) #[.int .u8 tos, .int .u16 id, .int .u8 fl, .int .u16 off, .int .u8 ttl, .int .u8 pr, .int .u32 src, .int .u32 dst, SV o] 70) ⟨by (repeat' (first | (with_reducible (first | exact Below.refl _ _ | assumption | refine below_drewN ?_ _ | refine Below.drew ?_ | refine Below.alloc ?_ ?_ _ | refine Below.setCell ?_ ?_ _)) | go_size)), by (repeat' (first | (with_reducible (first | assumption | exact Blk.alloc_new _ _ _ (by first | rfl | (simp; done) | omega) | apply Blk.drewN | apply Blk.drew | apply Blk.alloc_old | apply Blk.set_same | apply Blk.set_other)) | (show (_ : Nat) ≠ _; first | omega | (simp; done) | (simp; omega)) | ((simp only [List.setIfInBounds_toArray, List.set_cons_succ, List.set_cons_zero]); (with_reducible exact rfl)) | (with_reducible exact rfl) | (show (_ : Array Value) = _; exact rfl)))⟩ ?_
    rintro v4 ⟨gv4, Av4⟩
    have qA4 := blk_calm Av4
    refine wp_region_quiet_below (by kernel_rfl) (by kernel_rfl) ?_
    repeat (go_big_quiet_step ((first
        | (go_at_call 56; (with_reducible exact Calls.regrown_of (ipFourC src s3 s2 s1 s0 _ hsrc R8a.out R8b.out R8c.out R8d.out)))
        | (go_at_call 56; (with_reducible exact Calls.regrown_of (ipFourC dst e3 e2 e1 e0 _ hdst R9a.out R9b.out R9c.out R9d.out))))))
    refine wpQuiet_nil ?_
    intro _ hw'
    obtain ⟨pq, hw''⟩ := hw'
    subst hw''
    have hb4 := below_regrown v4 pq.d pq.os
    generalize Sort.grow (redrawn v4 pq.d) pq.os = w4 at *
    have A4 : Blk w4 (w.heap.size) #[.int .u8 tos, .int .u16 id, .int .u8 fl, .int .u16 off, .int .u8 ttl, .int .u8 pr, .int .u32 src, .int .u32 dst, SV o] 70 := Blk.below Av4 hb4 Av4.size
    have g4 : Below w.heap.size w w4 := gv4.trans (hb4.mono gv4.size)
    have hz4 : w.heap.size ≤ w4.heap.size := g4.size
    clear hb4 gv4 Av4 qA4
    replace cA := A4.cell
    replace fA := A4.frozen
    replace zA := A4.size
    go_wp2_with fail
    refine (ipSum (b0 :: tos :: t1 :: t0 :: i1 :: i0 :: p1 :: p0 :: ttl :: pr :: s3 :: s2 :: s1 :: s0 :: e3 :: e2 :: e1 :: e0 :: F) _ HB.out (by simp; omega) c HC.out).mono ?_
    rintro e u5 ⟨rfl, rfl⟩
    go_wp2_with fail
    refine (ipTwoC cc c1 c0 _ hcr R10.out R10'.out).mono ?_
    rintro e w6 ⟨rfl, hb6⟩
    have g6 : Below w.heap.size w w6 := by refine Below.trans ?_ (hb6.mono ?_) <;> (repeat' (first | (with_reducible (first | exact Below.refl _ _ | assumption | refine below_drewN ?_ _ | refine Below.drew ?_ | refine Below.alloc ?_ ?_ _ | refine Below.setCell ?_ ?_ _)) | go_size))
    have hz6 := hb6.size
    (try simp at hz6)
    clear hb6
    go_wp2
    go_returns
    exact ⟨rfl, by (repeat' (first | (with_reducible (first | exact Below.refl _ _ | assumption | refine below_drewN ?_ _ | refine Below.drew ?_ | refine Below.alloc ?_ ?_ _ | refine Below.setCell ?_ ?_ _)) | go_size))⟩
end Go.Proofs.Ytljpiofpfankoaa
