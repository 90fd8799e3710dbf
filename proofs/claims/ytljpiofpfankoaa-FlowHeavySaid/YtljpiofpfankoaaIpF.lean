/-
  The walk of ipv4.Encode: what is refused. Conditions: fields in range.
-/
import Derived.Test.YtljpiofpfankoaaIpE
namespace Go.Proofs.Ytljpiofpfankoaa
open Go.RowKit Go.Sort
set_option linter.unusedVariables false
set_option linter.unusedSimpArgs false
set_option maxRecDepth 100000 in
set_option maxHeartbeats 4000000 in
theorem ipEnc_1a (tos id fl off ttl pr src dst m : Int) (o b F G : List Int) (k : Nat) (w : World) (htos : 0 ≤ tos ∧ tos ≤ 255) (hid : 0 ≤ id ∧ id ≤ 65535) (hfl : 0 ≤ fl ∧ fl ≤ 255) (hoff : 0 ≤ off ∧ off ≤ 65535) (httl : 0 ≤ ttl ∧ ttl ≤ 255) (hpr : 0 ≤ pr ∧ pr ≤ 255) (hsrc : 0 ≤ src ∧ src ≤ 4294967295) (hdst : 0 ≤ dst ∧ dst ≤ 4294967295) (hob : o.length ≤ 4611686018427387904) (hbb : b.length ≤ 4611686018427387904) (h1 : 7 < fl) :
    Calls Try.prog 31 #[.agg #[.int .u8 tos, .int .u16 id, .int .u8 fl, .int .u16 off, .int .u8 ttl, .int .u8 pr, .int .u32 src, .int .u32 dst, SV o], SV b] w fun e w' => e = .returned (.tuple #[.string ⟨#[]⟩, .int .i64 1]) ∧ Below w.heap.size w w' := by
  have ks := sv_size
  have ka := strOf_app
  have d1 : decide (7 < fl) = true := decide_eq_true h1
  go_enter Try.func31, Try.ntmps31
  go_wp2
  go_returns
  exact ⟨rfl, by (repeat' (first | (with_reducible (first | exact Below.refl _ _ | assumption | refine below_drewN ?_ _ | refine Below.drew ?_ | refine Below.alloc ?_ ?_ _ | refine Below.setCell ?_ ?_ _)) | go_size))⟩
set_option maxRecDepth 100000 in
set_option maxHeartbeats 4000000 in
theorem ipEnc_1b (tos id fl off ttl pr src dst m : Int) (o b F G : List Int) (k : Nat) (w : World) (htos : 0 ≤ tos ∧ tos ≤ 255) (hid : 0 ≤ id ∧ id ≤ 65535) (hfl : 0 ≤ fl ∧ fl ≤ 255) (hoff : 0 ≤ off ∧ off ≤ 65535) (httl : 0 ≤ ttl ∧ ttl ≤ 255) (hpr : 0 ≤ pr ∧ pr ≤ 255) (hsrc : 0 ≤ src ∧ src ≤ 4294967295) (hdst : 0 ≤ dst ∧ dst ≤ 4294967295) (hob : o.length ≤ 4611686018427387904) (hbb : b.length ≤ 4611686018427387904) (h1 : fl ≤ 7) (h2 : 8192 ≤ off) :
    Calls Try.prog 31 #[.agg #[.int .u8 tos, .int .u16 id, .int .u8 fl, .int .u16 off, .int .u8 ttl, .int .u8 pr, .int .u32 src, .int .u32 dst, SV o], SV b] w fun e w' => e = .returned (.tuple #[.string ⟨#[]⟩, .int .i64 1]) ∧ Below w.heap.size w w' := by
  have ks := sv_size
  have ka := strOf_app
  have d1 : decide (7 < fl) = false := decide_eq_false (by omega)
  have d2 : decide (8192 ≤ off) = true := decide_eq_true h2
  go_enter Try.func31, Try.ntmps31
  go_wp2
  go_returns
  exact ⟨rfl, by (repeat' (first | (with_reducible (first | exact Below.refl _ _ | assumption | refine below_drewN ?_ _ | refine Below.drew ?_ | refine Below.alloc ?_ ?_ _ | refine Below.setCell ?_ ?_ _)) | go_size))⟩
set_option maxRecDepth 100000 in
set_option maxHeartbeats 4000000 in
theorem ipEnc_2a (tos id fl off ttl pr src dst m : Int) (o b F G : List Int) (k : Nat) (w : World) (htos : 0 ≤ tos ∧ tos ≤ 255) (hid : 0 ≤ id ∧ id ≤ 65535) (hfl : 0 ≤ fl ∧ fl ≤ 255) (hoff : 0 ≤ off ∧ off ≤ 65535) (httl : 0 ≤ ttl ∧ ttl ≤ 255) (hpr : 0 ≤ pr ∧ pr ≤ 255) (hsrc : 0 ≤ src ∧ src ≤ 4294967295) (hdst : 0 ≤ dst ∧ dst ≤ 4294967295) (hob : o.length ≤ 4611686018427387904) (hbb : b.length ≤ 4611686018427387904) (hk : k ≤ 3) (hk4 : (4 - (o.length : Int) % 4) % 4 = (k : Int)) (hG : List.replicate k (0 : Int) = G) (hF : o ++ G = F) (hm : 20 + (F.length : Int) = m) (hfl7 : fl ≤ 7) (hoff13 : off ≤ 8191) (h3 : 40 < o.length) :
    Calls Try.prog 31 #[.agg #[.int .u8 tos, .int .u16 id, .int .u8 fl, .int .u16 off, .int .u8 ttl, .int .u8 pr, .int .u32 src, .int .u32 dst, SV o], SV b] w fun e w' => e = .returned (.tuple #[.string ⟨#[]⟩, .int .i64 2]) ∧ Below w.heap.size w w' := by
  have ks := sv_size
  have ka := strOf_app
  have d3 : decide ((40 : Int) < (o.length : Int)) = true := decide_eq_true (by omega)
  have d1 : decide (7 < fl) = false := decide_eq_false (by omega)
  have d2 : decide (8192 ≤ off) = false := decide_eq_false (by omega)
  have hGn : G.length ≤ 3 := by rw [← hG, List.length_replicate]; exact hk
  have hFn : F.length ≤ 4611686018427387907 := by rw [← hF, List.length_append]; omega
  have hk5 : ((4 : Int) - (o.length : Int) % 4).tmod 4 = (k : Int) := by rw [Int.tmod_eq_emod_of_nonneg (by omega)]; exact hk4
  have HG := hide hG; clear hG
  go_enter Try.func31, Try.ntmps31
  go_wp2_with fail
  refine wp_forget (fun v => Below w.heap.size w v ∧ Blk v (w.heap.size) #[.int .u8 tos, .int .u16 id, .int .u8 fl, .int .u16 off, .int .u8 ttl, .int .u8 pr, .int .u32 src, .int .u32 dst, SV o] 70) ⟨by (repeat' (first | (with_reducible (first | exact Below.refl _ _ | assumption | refine below_drewN ?_ _ | refine Below.drew ?_ | refine Below.alloc ?_ ?_ _ | refine Below.setCell ?_ ?_ _)) | go_size)), by (repeat' (first | (with_reducible (first | assumption | exact Blk.alloc_new _ _ _ (by first | rfl | (simp; done) | omega) | apply Blk.drewN | apply Blk.drew | apply Blk.alloc_old | apply Blk.set_same | apply Blk.set_other)) | (show (_ : Nat) ≠ _; first | omega | (simp; done) | (simp; omega)) | ((simp only [List.setIfInBounds_toArray, List.set_cons_succ, List.set_cons_zero]); (with_reducible exact rfl)) | (with_reducible exact rfl) | (show (_ : Array Value) = _; exact rfl)))⟩ ?_
  rintro v1 ⟨gv1, Av1⟩
  have qA1 := blk_calm Av1
  refine wp_region_quiet_below (by kernel_rfl) (by kernel_rfl) ?_
  repeat (go_big_quiet_step ((first
      | (go_at_call 54; (with_reducible exact Calls.regrown_of (ipRepeatL (k : Int) k _ rfl hk G HG.out))))))
  refine wpQuiet_nil ?_
  intro _ hw'
  obtain ⟨pq, hw''⟩ := hw'
  subst hw''
  have hb1 := below_regrown v1 pq.d pq.os
  generalize Sort.grow (redrawn v1 pq.d) pq.os = w1 at *
  have A1 : Blk w1 (w.heap.size) #[.int .u8 tos, .int .u16 id, .int .u8 fl, .int .u16 off, .int .u8 ttl, .int .u8 pr, .int .u32 src, .int .u32 dst, SV o] 70 := Blk.below Av1 hb1 Av1.size
  have g1 : Below w.heap.size w w1 := gv1.trans (hb1.mono gv1.size)
  have hz1 : w.heap.size ≤ w1.heap.size := g1.size
  clear hb1 gv1 Av1 qA1
  replace cA := A1.cell
  replace fA := A1.frozen
  replace zA := A1.size
  go_wp2
  go_returns
  exact ⟨rfl, by (repeat' (first | (with_reducible (first | exact Below.refl _ _ | assumption | refine below_drewN ?_ _ | refine Below.drew ?_ | refine Below.alloc ?_ ?_ _ | refine Below.setCell ?_ ?_ _)) | go_size))⟩
set_option maxRecDepth 100000 in
set_option maxHeartbeats 4000000 in
theorem ipEnc_2b (tos id fl off ttl pr src dst m : Int) (o b F G : List Int) (k : Nat) (w : World) (htos : 0 ≤ tos ∧ tos ≤ 255) (hid : 0 ≤ id ∧ id ≤ 65535) (hfl : 0 ≤ fl ∧ fl ≤ 255) (hoff : 0 ≤ off ∧ off ≤ 65535) (httl : 0 ≤ ttl ∧ ttl ≤ 255) (hpr : 0 ≤ pr ∧ pr ≤ 255) (hsrc : 0 ≤ src ∧ src ≤ 4294967295) (hdst : 0 ≤ dst ∧ dst ≤ 4294967295) (hob : o.length ≤ 4611686018427387904) (hbb : b.length ≤ 4611686018427387904) (hk : k ≤ 3) (hk4 : (4 - (o.length : Int) % 4) % 4 = (k : Int)) (hG : List.replicate k (0 : Int) = G) (hF : o ++ G = F) (hm : 20 + (F.length : Int) = m) (hfl7 : fl ≤ 7) (hoff13 : off ≤ 8191) (h3 : o.length ≤ 40) (h4 : 65535 - m < (b.length : Int)) :
    Calls Try.prog 31 #[.agg #[.int .u8 tos, .int .u16 id, .int .u8 fl, .int .u16 off, .int .u8 ttl, .int .u8 pr, .int .u32 src, .int .u32 dst, SV o], SV b] w fun e w' => e = .returned (.tuple #[.string ⟨#[]⟩, .int .i64 2]) ∧ Below w.heap.size w w' := by
  have ks := sv_size
  have ka := strOf_app
  have d3 : decide ((40 : Int) < (o.length : Int)) = false := decide_eq_false (by omega)
  have d4 : decide ((65535 : Int) - m < (b.length : Int)) = true := decide_eq_true h4
  have d1 : decide (7 < fl) = false := decide_eq_false (by omega)
  have d2 : decide (8192 ≤ off) = false := decide_eq_false (by omega)
  have hGn : G.length ≤ 3 := by rw [← hG, List.length_replicate]; exact hk
  have hFn : F.length ≤ 4611686018427387907 := by rw [← hF, List.length_append]; omega
  have hk5 : ((4 : Int) - (o.length : Int) % 4).tmod 4 = (k : Int) := by rw [Int.tmod_eq_emod_of_nonneg (by omega)]; exact hk4
  have HG := hide hG; clear hG
  go_enter Try.func31, Try.ntmps31
  go_wp2_with fail
  refine wp_forget (fun v => Below w.heap.size w v ∧ Blk v (w.heap.size) #[.int .u8 tos, .int .u16 id, .int .u8 fl, .int .u16 off, .int .u8 ttl, .int .u8 pr, .int .u32 src, .int .u32 dst, SV o] 70) ⟨by (repeat' (first | (with_reducible (first | exact Below.refl _ _ | assumption | refine below_drewN ?_ _ | refine Below.drew ?_ | refine Below.alloc ?_ ?_ _ | refine Below.setCell ?_ ?_ _)) | go_size)), by (repeat' (first | (with_reducible (first | assumption | exact Blk.alloc_new _ _ _ (by first | rfl | (simp; done) | omega) | apply Blk.drewN | apply Blk.drew | apply Blk.alloc_old | apply Blk.set_same | apply Blk.set_other)) | (show (_ : Nat) ≠ _; first | omega | (simp; done) | (simp; omega)) | ((simp only [List.setIfInBounds_toArray, List.set_cons_succ, List.set_cons_zero]); (with_reducible exact rfl)) | (with_reducible exact rfl) | (show (_ : Array Value) = _; exact rfl)))⟩ ?_
  rintro v1 ⟨gv1, Av1⟩
  have qA1 := blk_calm Av1
  refine wp_region_quiet_below (by kernel_rfl) (by kernel_rfl) ?_
  repeat (go_big_quiet_step ((first
      | (go_at_call 54; (with_reducible exact Calls.regrown_of (ipRepeatL (k : Int) k _ rfl hk G HG.out))))))
  refine wpQuiet_nil ?_
  intro _ hw'
  obtain ⟨pq, hw''⟩ := hw'
  subst hw''
  have hb1 := below_regrown v1 pq.d pq.os
  generalize Sort.grow (redrawn v1 pq.d) pq.os = w1 at *
  have A1 : Blk w1 (w.heap.size) #[.int .u8 tos, .int .u16 id, .int .u8 fl, .int .u16 off, .int .u8 ttl, .int .u8 pr, .int .u32 src, .int .u32 dst, SV o] 70 := Blk.below Av1 hb1 Av1.size
  have g1 : Below w.heap.size w w1 := gv1.trans (hb1.mono gv1.size)
  have hz1 : w.heap.size ≤ w1.heap.size := g1.size
  clear hb1 gv1 Av1 qA1
  replace cA := A1.cell
  replace fA := A1.frozen
  replace zA := A1.size
  go_wp2
  go_returns
  exact ⟨rfl, by (repeat' (first | (with_reducible (first | exact Below.refl _ _ | assumption | refine below_drewN ?_ _ | refine Below.drew ?_ | refine Below.alloc ?_ ?_ _ | refine Below.setCell ?_ ?_ _)) | go_size))⟩
end Go.Proofs.Ytljpiofpfankoaa
