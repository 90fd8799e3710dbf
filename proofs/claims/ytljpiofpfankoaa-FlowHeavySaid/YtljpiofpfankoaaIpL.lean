/-
  The walk of the reference's Bad: what is refused ahead of the sum. Conditions: a string that is not too long.
-/
import Derived.Test.YtljpiofpfankoaaIpG
namespace Go.Proofs.Ytljpiofpfankoaa
open Go.RowKit Go.Sort
set_option linter.unusedVariables false
set_option linter.unusedSimpArgs false
theorem hor2 (l : List Int) (i : Nat) : hor (l.drop i) 2 = l.getD i 0 * 256 + l.getD (i + 1) 0 := by
  show (0 * 256 + (l.drop i).getD 0 0) * 256 + (l.drop i).getD 1 0 = _
  rw [getD_drop, getD_drop, Nat.add_zero]; omega
theorem ipBad_3 (l : List Int) (w : World) (h : l.length < 20) :
    Calls Try.prog 28 #[SV l] w fun e w' => e = .returned (.int .i64 3) ∧ Below w.heap.size w w' := by
  have ks := sv_size
  have d1 : decide ((l.length : Int) < 20) = true := decide_eq_true (by omega)
  go_enter Try.func28, Try.ntmps28
  go_wp2
  go_ret
  exact ⟨rfl, by (repeat' (first | (with_reducible (first | exact Below.refl _ _ | assumption | refine below_drewN ?_ _ | refine Below.drew ?_ | refine Below.alloc ?_ ?_ _ | refine Below.setCell ?_ ?_ _)) | go_size))⟩
set_option maxRecDepth 100000 in
set_option maxHeartbeats 4000000 in
theorem ipBad_4a (l CK : List Int) (sz : Nat) (al ck sm cs : Int) (w : World) (hl : Byt l) (hb : l.length ≤ 4611686018427387904) (h20 : 20 ≤ l.length) (h1 : l.getD 0 0 < 69) :
    Calls Try.prog 28 #[SV l] w fun e w' => e = .returned (.int .i64 4) ∧ Below w.heap.size w w' := by
  have ks := sv_size
  have ka := strOf_app
  have kx := strOf_sub
  have d1 : decide ((l.length : Int) < 20) = false := decide_eq_false (by omega)
  obtain ⟨b0, hb0⟩ : ∃ x, l.getD 0 0 = x := ⟨_, rfl⟩
  have r0 := hl.get 0
  rw [hb0] at r0
  have x0 : ∀ v, (Instr.index 9 (SV l) (.int .i64 0)).run Try.prog v = .ok (.int .u8 b0) v := fun v => sv_idx hl 0 b0 (by omega) hb0 v
  rw [hb0] at h1
  have d2 : decide (b0 < 69) = true := decide_eq_true (by omega)
  go_enter Try.func28, Try.ntmps28
  go_wp2
  go_ret
  exact ⟨rfl, by (repeat' (first | (with_reducible (first | exact Below.refl _ _ | assumption | refine below_drewN ?_ _ | refine Below.drew ?_ | refine Below.alloc ?_ ?_ _ | refine Below.setCell ?_ ?_ _)) | go_size))⟩
set_option maxRecDepth 100000 in
set_option maxHeartbeats 4000000 in
theorem ipBad_4b (l CK : List Int) (sz : Nat) (al ck sm cs : Int) (w : World) (hl : Byt l) (hb : l.length ≤ 4611686018427387904) (h20 : 20 ≤ l.length) (h1 : 79 < l.getD 0 0) :
    Calls Try.prog 28 #[SV l] w fun e w' => e = .returned (.int .i64 4) ∧ Below w.heap.size w w' := by
  have ks := sv_size
  have ka := strOf_app
  have kx := strOf_sub
  have d1 : decide ((l.length : Int) < 20) = false := decide_eq_false (by omega)
  obtain ⟨b0, hb0⟩ : ∃ x, l.getD 0 0 = x := ⟨_, rfl⟩
  have r0 := hl.get 0
  rw [hb0] at r0
  have x0 : ∀ v, (Instr.index 9 (SV l) (.int .i64 0)).run Try.prog v = .ok (.int .u8 b0) v := fun v => sv_idx hl 0 b0 (by omega) hb0 v
  rw [hb0] at h1
  have d2 : decide (b0 < 69) = false := decide_eq_false (by omega)
  have d3 : decide (79 < b0) = true := decide_eq_true (by omega)
  go_enter Try.func28, Try.ntmps28
  go_wp2
  go_ret
  exact ⟨rfl, by (repeat' (first | (with_reducible (first | exact Below.refl _ _ | assumption | refine below_drewN ?_ _ | refine Below.drew ?_ | refine Below.alloc ?_ ?_ _ | refine Below.setCell ?_ ?_ _)) | go_size))⟩
set_option maxRecDepth 100000 in
set_option maxHeartbeats 4000000 in
theorem ipBad_4c (l CK : List Int) (sz : Nat) (al ck sm cs : Int) (w : World) (hl : Byt l) (hb : l.length ≤ 4611686018427387904) (h20 : 20 ≤ l.length) (h1 : 69 ≤ l.getD 0 0 ∧ l.getD 0 0 ≤ 79) (hsz : l.getD 0 0 % 16 * 4 = (sz : Int)) (hal : l.getD 2 0 * 256 + l.getD 3 0 = al) (h3 : al < (sz : Int)) :
    Calls Try.prog 28 #[SV l] w fun e w' => e = .returned (.int .i64 4) ∧ Below w.heap.size w w' := by
  have ks := sv_size
  have ka := strOf_app
  have kx := strOf_sub
  have d1 : decide ((l.length : Int) < 20) = false := decide_eq_false (by omega)
  obtain ⟨b0, hb0⟩ : ∃ x, l.getD 0 0 = x := ⟨_, rfl⟩
  have r0 := hl.get 0
  rw [hb0] at r0
  have x0 : ∀ v, (Instr.index 9 (SV l) (.int .i64 0)).run Try.prog v = .ok (.int .u8 b0) v := fun v => sv_idx hl 0 b0 (by omega) hb0 v
  rw [hb0] at h1
  rw [hb0] at hsz
  have hs4 : 4 * (b0 - 64) = (sz : Int) := by omega
  have r2 := hl.get 2
  have r3 := hl.get 3
  have halr : 0 ≤ al ∧ al ≤ 65535 := by omega
  have HA := hide ((hor2 l 2).trans hal)
  have HL := hide hl
  clear hal hl r2 r3 hb0
  have d2 : decide (b0 < 69) = false := decide_eq_false (by omega)
  have d3 : decide (79 < b0) = false := decide_eq_false (by omega)
  have d4 : decide (al < (sz : Int)) = true := decide_eq_true (by omega)
  go_enter Try.func28, Try.ntmps28
  go_wp2_with fail
  refine (ipAt l 2 2 2 2 al _ rfl rfl HL.out (by omega) (by omega) (by omega) HA.out).mono ?_
  rintro e u0 ⟨rfl, rfl⟩
  go_wp2
  go_ret
  exact ⟨rfl, by (repeat' (first | (with_reducible (first | exact Below.refl _ _ | assumption | refine below_drewN ?_ _ | refine Below.drew ?_ | refine Below.alloc ?_ ?_ _ | refine Below.setCell ?_ ?_ _)) | go_size))⟩
set_option maxRecDepth 100000 in
set_option maxHeartbeats 4000000 in
theorem ipBad_s (l CK : List Int) (sz : Nat) (al ck sm cs : Int) (w : World) (hl : Byt l) (hb : l.length ≤ 4611686018427387904) (h20 : 20 ≤ l.length) (h1 : 69 ≤ l.getD 0 0 ∧ l.getD 0 0 ≤ 79) (hsz : l.getD 0 0 % 16 * 4 = (sz : Int)) (hal : l.getD 2 0 * 256 + l.getD 3 0 = al) (h3 : (sz : Int) ≤ al) (h4 : (l.length : Int) < al) :
    Calls Try.prog 28 #[SV l] w fun e w' => e = .returned (.int .i64 3) ∧ Below w.heap.size w w' := by
  have ks := sv_size
  have ka := strOf_app
  have kx := strOf_sub
  have d1 : decide ((l.length : Int) < 20) = false := decide_eq_false (by omega)
  obtain ⟨b0, hb0⟩ : ∃ x, l.getD 0 0 = x := ⟨_, rfl⟩
  have r0 := hl.get 0
  rw [hb0] at r0
  have x0 : ∀ v, (Instr.index 9 (SV l) (.int .i64 0)).run Try.prog v = .ok (.int .u8 b0) v := fun v => sv_idx hl 0 b0 (by omega) hb0 v
  rw [hb0] at h1
  rw [hb0] at hsz
  have hs4 : 4 * (b0 - 64) = (sz : Int) := by omega
  have r2 := hl.get 2
  have r3 := hl.get 3
  have halr : 0 ≤ al ∧ al ≤ 65535 := by omega
  have HA := hide ((hor2 l 2).trans hal)
  have HL := hide hl
  clear hal hl r2 r3 hb0
  have d2 : decide (b0 < 69) = false := decide_eq_false (by omega)
  have d3 : decide (79 < b0) = false := decide_eq_false (by omega)
  have d4 : decide (al < (sz : Int)) = false := decide_eq_false (by omega)
  have d5 : decide ((l.length : Int) < al) = true := decide_eq_true (by omega)
  go_enter Try.func28, Try.ntmps28
  go_wp2_with fail
  refine (ipAt l 2 2 2 2 al _ rfl rfl HL.out (by omega) (by omega) (by omega) HA.out).mono ?_
  rintro e u0 ⟨rfl, rfl⟩
  go_wp2_with fail
  refine (ipAt l 2 2 2 2 al _ rfl rfl HL.out (by omega) (by omega) (by omega) HA.out).mono ?_
  rintro e u1 ⟨rfl, rfl⟩
  go_wp2
  go_ret
  exact ⟨rfl, by (repeat' (first | (with_reducible (first | exact Below.refl _ _ | assumption | refine below_drewN ?_ _ | refine Below.drew ?_ | refine Below.alloc ?_ ?_ _ | refine Below.setCell ?_ ?_ _)) | go_size))⟩
set_option maxRecDepth 100000 in
set_option maxHeartbeats 4000000 in
theorem ipBad_l (l CK : List Int) (sz : Nat) (al ck sm cs : Int) (w : World) (hl : Byt l) (hb : l.length ≤ 4611686018427387904) (h20 : 20 ≤ l.length) (h1 : 69 ≤ l.getD 0 0 ∧ l.getD 0 0 ≤ 79) (hsz : l.getD 0 0 % 16 * 4 = (sz : Int)) (hal : l.getD 2 0 * 256 + l.getD 3 0 = al) (h3 : (sz : Int) ≤ al) (h4 : al < (l.length : Int)) :
    Calls Try.prog 28 #[SV l] w fun e w' => e = .returned (.int .i64 2) ∧ Below w.heap.size w w' := by
  have ks := sv_size
  have ka := strOf_app
  have kx := strOf_sub
  have d1 : decide ((l.length : Int) < 20) = false := decide_eq_false (by omega)
  obtain ⟨b0, hb0⟩ : ∃ x, l.getD 0 0 = x := ⟨_, rfl⟩
  have r0 := hl.get 0
  rw [hb0] at r0
  have x0 : ∀ v, (Instr.index 9 (SV l) (.int .i64 0)).run Try.prog v = .ok (.int .u8 b0) v := fun v => sv_idx hl 0 b0 (by omega) hb0 v
  rw [hb0] at h1
  rw [hb0] at hsz
  have hs4 : 4 * (b0 - 64) = (sz : Int) := by omega
  have r2 := hl.get 2
  have r3 := hl.get 3
  have halr : 0 ≤ al ∧ al ≤ 65535 := by omega
  have HA := hide ((hor2 l 2).trans hal)
  have HL := hide hl
  clear hal hl r2 r3 hb0
  have d2 : decide (b0 < 69) = false := decide_eq_false (by omega)
  have d3 : decide (79 < b0) = false := decide_eq_false (by omega)
  have d4 : decide (al < (sz : Int)) = false := decide_eq_false (by omega)
  have d5 : decide ((l.length : Int) < al) = false := decide_eq_false (by omega)
  have d6 : decide (al < (l.length : Int)) = true := decide_eq_true (by omega)
  go_enter Try.func28, Try.ntmps28
  go_wp2_with fail
  refine (ipAt l 2 2 2 2 al _ rfl rfl HL.out (by omega) (by omega) (by omega) HA.out).mono ?_
  rintro e u0 ⟨rfl, rfl⟩
  go_wp2_with fail
  refine (ipAt l 2 2 2 2 al _ rfl rfl HL.out (by omega) (by omega) (by omega) HA.out).mono ?_
  rintro e u1 ⟨rfl, rfl⟩
  go_wp2_with fail
  refine (ipAt l 2 2 2 2 al _ rfl rfl HL.out (by omega) (by omega) (by omega) HA.out).mono ?_
  rintro e u2 ⟨rfl, rfl⟩
  go_wp2
  go_ret
  exact ⟨rfl, by (repeat' (first | (with_reducible (first | exact Below.refl _ _ | assumption | refine below_drewN ?_ _ | refine Below.drew ?_ | refine Below.alloc ?_ ?_ _ | refine Below.setCell ?_ ?_ _)) | go_size))⟩
set_option maxRecDepth 100000 in
set_option maxHeartbeats 4000000 in
theorem ipBad_7 (l CK : List Int) (sz : Nat) (al ck sm cs : Int) (w : World) (hl : Byt l) (hb : l.length ≤ 4611686018427387904) (h20 : 20 ≤ l.length) (h1 : 69 ≤ l.getD 0 0 ∧ l.getD 0 0 ≤ 79) (hsz : l.getD 0 0 % 16 * 4 = (sz : Int)) (hal : l.getD 2 0 * 256 + l.getD 3 0 = al) (h3 : (sz : Int) ≤ al) (h4 : (l.length : Int) = al) (hCK : l.take 10 ++ (l.drop 12).take (sz - 12) = CK) (hsm : sumS CK = sm) (hcs : 65535 - sm = cs) (hck : l.getD 10 0 * 256 + l.getD 11 0 = ck) (hne : ck ≠ cs) :
    Calls Try.prog 28 #[SV l] w fun e w' => e = .returned (.int .i64 7) ∧ Below w.heap.size w w' := by
  have ks := sv_size
  have ka := strOf_app
  have kx := strOf_sub
  have d1 : decide ((l.length : Int) < 20) = false := decide_eq_false (by omega)
  obtain ⟨b0, hb0⟩ : ∃ x, l.getD 0 0 = x := ⟨_, rfl⟩
  have r0 := hl.get 0
  rw [hb0] at r0
  have x0 : ∀ v, (Instr.index 9 (SV l) (.int .i64 0)).run Try.prog v = .ok (.int .u8 b0) v := fun v => sv_idx hl 0 b0 (by omega) hb0 v
  rw [hb0] at h1
  rw [hb0] at hsz
  have hs4 : 4 * (b0 - 64) = (sz : Int) := by omega
  have r2 := hl.get 2
  have r3 := hl.get 3
  have halr : 0 ≤ al ∧ al ≤ 65535 := by omega
  have HA := hide ((hor2 l 2).trans hal)
  have HL := hide hl
  have bCK : Byt CK := by
    rw [← hCK]; intro x hx
    rcases List.mem_append.1 hx with hx | hx
    · exact hl x (List.mem_of_mem_take hx)
    · exact hl x (List.mem_of_mem_drop (List.mem_of_mem_take hx))
  have lCK : CK.length ≤ 300000 := by rw [← hCK]; simp; omega
  have hsr : 0 ≤ sm ∧ sm ≤ 65535 := by rw [← hsm]; exact csum_rng (wk_rng bCK _).1
  have HS := hide hsm; have HB := hide bCK; have HC := hide ((hor2 l 10).trans hck)
  clear hsm bCK hck
  have hszr : 20 ≤ sz ∧ sz ≤ 60 := by omega
  have hs1 : (sz : Int).toNat = sz := Int.toNat_natCast sz
  have hl12 : (12 : Int) ≤ (sz : Int) := by omega
  have hlsz : (sz : Int) ≤ (l.length : Int) := by omega
  have hl10 : (10 : Int) ≤ (l.length : Int) := by omega
  have hn10 : 10 ≤ l.length := by omega
  have hnsz : sz ≤ l.length := by omega
  have hn12 : 12 ≤ sz := by omega
  have hadd3 : ∀ v, (Op.stringOp .add (strOfNums (l.take 10)) (strOfNums ((l.drop 12).take (sz - 12)))).run Try.prog v = .ok (SV CK) v := fun v => by
    refine (run_string_add_sum v _ _ (by rw [sv_size, sv_size, List.length_take, List.length_take, List.length_drop]; omega)).trans ?_
    rw [strOf_app, hCK]
  have hadd4 : ∀ v, (binOp .add 9 (SV (l.take 10)) (SV ((l.drop 12).take (sz - 12)))).run Try.prog v = .ok (SV CK) v := fun v => by
    show Sem.run Try.prog (binOp .add 9 (.string _) (.string _)) v = _
    rw [binOp_string_add]; exact hadd3 v
  clear hal hl r2 r3 hb0
  have d2 : decide (b0 < 69) = false := decide_eq_false (by omega)
  have d3 : decide (79 < b0) = false := decide_eq_false (by omega)
  have d4 : decide (al < (sz : Int)) = false := decide_eq_false (by omega)
  have d5 : decide ((l.length : Int) < al) = false := decide_eq_false (by omega)
  have d6 : decide (al < (l.length : Int)) = false := decide_eq_false (by omega)
  have d7 : (ck != cs) = true := bne_iff_ne.2 hne
  clear h4
  go_enter Try.func28, Try.ntmps28
  go_wp2_with fail
  refine (ipAt l 2 2 2 2 al _ rfl rfl HL.out (by omega) (by omega) (by omega) HA.out).mono ?_
  rintro e u0 ⟨rfl, rfl⟩
  go_wp2_with fail
  refine (ipAt l 2 2 2 2 al _ rfl rfl HL.out (by omega) (by omega) (by omega) HA.out).mono ?_
  rintro e u1 ⟨rfl, rfl⟩
  go_wp2_with fail
  refine (ipAt l 2 2 2 2 al _ rfl rfl HL.out (by omega) (by omega) (by omega) HA.out).mono ?_
  rintro e u2 ⟨rfl, rfl⟩
  go_wp2_with fail
  refine wp_forget (fun v => Below w.heap.size w v) (by (repeat' (first | (with_reducible (first | exact Below.refl _ _ | assumption | refine below_drewN ?_ _ | refine Below.drew ?_ | refine Below.alloc ?_ ?_ _ | refine Below.setCell ?_ ?_ _)) | go_size))) ?_
  rintro v5 gv5
  refine wp_region_quiet_below (by kernel_rfl) (by kernel_rfl) ?_
  repeat (go_big_quiet_step ((first
      | (go_at_call 49; (with_reducible exact calm_same (ipAt l 10 2 10 2 ck _ rfl rfl HL.out (by omega) (by omega) (by omega) HC.out)))
      | (go_at_call 50; (with_reducible exact calm_same (ipRSum CK _ HB.out (by omega) sm HS.out))))))
  refine wpQuiet_nil ?_
  intro _ hw'
  obtain ⟨pq, hw''⟩ := hw'
  subst hw''
  have hb5 := below_regrown v5 pq.d pq.os
  generalize Sort.grow (redrawn v5 pq.d) pq.os = w5 at *
  have g5 : Below w.heap.size w w5 := gv5.trans (hb5.mono gv5.size)
  have hz5 : w.heap.size ≤ w5.heap.size := g5.size
  clear hb5 gv5
  go_wp2
  go_ret
  exact ⟨rfl, by (repeat' (first | (with_reducible (first | exact Below.refl _ _ | assumption | refine below_drewN ?_ _ | refine Below.drew ?_ | refine Below.alloc ?_ ?_ _ | refine Below.setCell ?_ ?_ _)) | go_size))⟩
set_option maxRecDepth 100000 in
set_option maxHeartbeats 4000000 in
theorem ipBad_0 (l CK : List Int) (sz : Nat) (al ck sm cs : Int) (w : World) (hl : Byt l) (hb : l.length ≤ 4611686018427387904) (h20 : 20 ≤ l.length) (h1 : 69 ≤ l.getD 0 0 ∧ l.getD 0 0 ≤ 79) (hsz : l.getD 0 0 % 16 * 4 = (sz : Int)) (hal : l.getD 2 0 * 256 + l.getD 3 0 = al) (h3 : (sz : Int) ≤ al) (h4 : (l.length : Int) = al) (hCK : l.take 10 ++ (l.drop 12).take (sz - 12) = CK) (hsm : sumS CK = sm) (hcs : 65535 - sm = cs) (hck : l.getD 10 0 * 256 + l.getD 11 0 = ck) (heq : ck = cs) :
    Calls Try.prog 28 #[SV l] w fun e w' => e = .returned (.int .i64 0) ∧ Below w.heap.size w w' := by
  have ks := sv_size
  have ka := strOf_app
  have kx := strOf_sub
  have d1 : decide ((l.length : Int) < 20) = false := decide_eq_false (by omega)
  obtain ⟨b0, hb0⟩ : ∃ x, l.getD 0 0 = x := ⟨_, rfl⟩
  have r0 := hl.get 0
  rw [hb0] at r0
  have x0 : ∀ v, (Instr.index 9 (SV l) (.int .i64 0)).run Try.prog v = .ok (.int .u8 b0) v := fun v => sv_idx hl 0 b0 (by omega) hb0 v
  rw [hb0] at h1
  rw [hb0] at hsz
  have hs4 : 4 * (b0 - 64) = (sz : Int) := by omega
  have r2 := hl.get 2
  have r3 := hl.get 3
  have halr : 0 ≤ al ∧ al ≤ 65535 := by omega
  have HA := hide ((hor2 l 2).trans hal)
  have HL := hide hl
  have bCK : Byt CK := by
    rw [← hCK]; intro x hx
    rcases List.mem_append.1 hx with hx | hx
    · exact hl x (List.mem_of_mem_take hx)
    · exact hl x (List.mem_of_mem_drop (List.mem_of_mem_take hx))
  have lCK : CK.length ≤ 300000 := by rw [← hCK]; simp; omega
  have hsr : 0 ≤ sm ∧ sm ≤ 65535 := by rw [← hsm]; exact csum_rng (wk_rng bCK _).1
  have HS := hide hsm; have HB := hide bCK; have HC := hide ((hor2 l 10).trans hck)
  clear hsm bCK hck
  have hszr : 20 ≤ sz ∧ sz ≤ 60 := by omega
  have hs1 : (sz : Int).toNat = sz := Int.toNat_natCast sz
  have hl12 : (12 : Int) ≤ (sz : Int) := by omega
  have hlsz : (sz : Int) ≤ (l.length : Int) := by omega
  have hl10 : (10 : Int) ≤ (l.length : Int) := by omega
  have hn10 : 10 ≤ l.length := by omega
  have hnsz : sz ≤ l.length := by omega
  have hn12 : 12 ≤ sz := by omega
  have hadd3 : ∀ v, (Op.stringOp .add (strOfNums (l.take 10)) (strOfNums ((l.drop 12).take (sz - 12)))).run Try.prog v = .ok (SV CK) v := fun v => by
    refine (run_string_add_sum v _ _ (by rw [sv_size, sv_size, List.length_take, List.length_take, List.length_drop]; omega)).trans ?_
    rw [strOf_app, hCK]
  have hadd4 : ∀ v, (binOp .add 9 (SV (l.take 10)) (SV ((l.drop 12).take (sz - 12)))).run Try.prog v = .ok (SV CK) v := fun v => by
    show Sem.run Try.prog (binOp .add 9 (.string _) (.string _)) v = _
    rw [binOp_string_add]; exact hadd3 v
  clear hal hl r2 r3 hb0
  have d2 : decide (b0 < 69) = false := decide_eq_false (by omega)
  have d3 : decide (79 < b0) = false := decide_eq_false (by omega)
  have d4 : decide (al < (sz : Int)) = false := decide_eq_false (by omega)
  have d5 : decide ((l.length : Int) < al) = false := decide_eq_false (by omega)
  have d6 : decide (al < (l.length : Int)) = false := decide_eq_false (by omega)
  have d7 : (ck != cs) = false := by simp [heq]
  clear h4
  go_enter Try.func28, Try.ntmps28
  go_wp2_with fail
  refine (ipAt l 2 2 2 2 al _ rfl rfl HL.out (by omega) (by omega) (by omega) HA.out).mono ?_
  rintro e u0 ⟨rfl, rfl⟩
  go_wp2_with fail
  refine (ipAt l 2 2 2 2 al _ rfl rfl HL.out (by omega) (by omega) (by omega) HA.out).mono ?_
  rintro e u1 ⟨rfl, rfl⟩
  go_wp2_with fail
  refine (ipAt l 2 2 2 2 al _ rfl rfl HL.out (by omega) (by omega) (by omega) HA.out).mono ?_
  rintro e u2 ⟨rfl, rfl⟩
  go_wp2_with fail
  refine wp_forget (fun v => Below w.heap.size w v) (by (repeat' (first | (with_reducible (first | exact Below.refl _ _ | assumption | refine below_drewN ?_ _ | refine Below.drew ?_ | refine Below.alloc ?_ ?_ _ | refine Below.setCell ?_ ?_ _)) | go_size))) ?_
  rintro v5 gv5
  refine wp_region_quiet_below (by kernel_rfl) (by kernel_rfl) ?_
  repeat (go_big_quiet_step ((first
      | (go_at_call 49; (with_reducible exact calm_same (ipAt l 10 2 10 2 ck _ rfl rfl HL.out (by omega) (by omega) (by omega) HC.out)))
      | (go_at_call 50; (with_reducible exact calm_same (ipRSum CK _ HB.out (by omega) sm HS.out))))))
  refine wpQuiet_nil ?_
  intro _ hw'
  obtain ⟨pq, hw''⟩ := hw'
  subst hw''
  have hb5 := below_regrown v5 pq.d pq.os
  generalize Sort.grow (redrawn v5 pq.d) pq.os = w5 at *
  have g5 : Below w.heap.size w w5 := gv5.trans (hb5.mono gv5.size)
  have hz5 : w.heap.size ≤ w5.heap.size := g5.size
  clear hb5 gv5
  go_wp2
  go_ret
  exact ⟨rfl, by (repeat' (first | (with_reducible (first | exact Below.refl _ _ | assumption | refine below_drewN ?_ _ | refine Below.drew ?_ | refine Below.alloc ?_ ?_ _ | refine Below.setCell ?_ ?_ _)) | go_size))⟩
end Go.Proofs.Ytljpiofpfankoaa
