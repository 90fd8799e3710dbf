/-
  The walk of ipv4.Decode: all is right. Conditions: fields in range.
-/
import Derived.Test.YtljpiofpfankoaaIpG
import Derived.Test.YtljpiofpfankoaaGuarT
import Derived.Test.YtljpiofpfankoaaGuarS
import Derived.Deep.RegionHeld3
namespace Go.Proofs.Ytljpiofpfankoaa
open Go.RowKit Go.Sort
set_option linter.unusedVariables false
set_option linter.unusedSimpArgs false
set_option maxRecDepth 100000 in
set_option maxHeartbeats 8000000 in
theorem ipDec_ok (l CK : List Int) (n sz : Nat) (al ck sm cs : Int) (w : World) (hl : Byt l) (hb : l.length ≤ 70000) (h20 : 20 ≤ l.length) (hsz : l.getD 0 0 % 16 * 4 = (sz : Int)) (hal : l.getD 2 0 * 256 + l.getD 3 0 = al) (h1 : l.getD 0 0 / 16 = 4) (h2 : 20 ≤ sz) (h3 : (sz : Int) ≤ al) (h4 : (l.length : Int) = al) (hCK : l.take 10 ++ (l.drop 12).take (sz - 12) = CK) (hsm : sumS CK = sm) (hcs : 65535 - sm = cs) (hck : l.getD 10 0 * 256 + l.getD 11 0 = ck) (OP BD : List Int) (b1 id pt fl off b8 b9 src dst : Int) (heq : ck = cs) (e1 : l.getD 1 0 = b1) (e4 : l.getD 4 0 * 256 + l.getD 5 0 = id) (e6 : l.getD 6 0 * 256 + l.getD 7 0 = pt) (efl : pt / 8192 = fl) (eoff : pt % 8192 = off) (e8 : l.getD 8 0 = b8) (e9 : l.getD 9 0 = b9) (e12 : ((l.getD 12 0 * 256 + l.getD 13 0) * 256 + l.getD 14 0) * 256 + l.getD 15 0 = src) (e16 : ((l.getD 16 0 * 256 + l.getD 17 0) * 256 + l.getD 18 0) * 256 + l.getD 19 0 = dst) (eO : (l.drop 20).take (sz - 20) = OP) (eB : l.drop sz = BD) :
    Calls Try.prog 47 #[SV l] w fun e w' => e = .returned (.tuple #[.agg #[.int .u8 b1, .int .u16 id, .int .u8 fl, .int .u16 off, .int .u8 b8, .int .u8 b9, .int .u32 src, .int .u32 dst, SV OP], SV BD, .int .i64 0]) ∧ Below w.heap.size w w' := by
  have ks := sv_size
  have ka := strOf_app
  have kx := strOf_sub
  have d1 : decide ((l.length : Int) < 20) = false := decide_eq_false (by omega)
  obtain ⟨b0, hb0⟩ : ∃ x, l.getD 0 0 = x := ⟨_, rfl⟩
  have r0 := hl.get 0
  rw [hb0] at r0
  have x0 : ∀ v, (Instr.index 9 (SV l) (.int .i64 0)).run Try.prog v = .ok (.int .u8 b0) v := fun v => sv_idx hl 0 b0 (by omega) hb0 v
  obtain ⟨b2, hb2⟩ : ∃ x, l.getD 2 0 = x := ⟨_, rfl⟩
  have r2 := hl.get 2
  rw [hb2] at r2
  have x2 : ∀ v, (Instr.index 9 (SV l) (.int .i64 2)).run Try.prog v = .ok (.int .u8 b2) v := fun v => sv_idx hl 2 b2 (by omega) hb2 v
  obtain ⟨b3, hb3⟩ : ∃ x, l.getD 3 0 = x := ⟨_, rfl⟩
  have r3 := hl.get 3
  rw [hb3] at r3
  have x3 : ∀ v, (Instr.index 9 (SV l) (.int .i64 3)).run Try.prog v = .ok (.int .u8 b3) v := fun v => sv_idx hl 3 b3 (by omega) hb3 v
  obtain ⟨b10, hb10⟩ : ∃ x, l.getD 10 0 = x := ⟨_, rfl⟩
  have r10 := hl.get 10
  rw [hb10] at r10
  have x10 : ∀ v, (Instr.index 9 (SV l) (.int .i64 10)).run Try.prog v = .ok (.int .u8 b10) v := fun v => sv_idx hl 10 b10 (by omega) hb10 v
  obtain ⟨b11, hb11⟩ : ∃ x, l.getD 11 0 = x := ⟨_, rfl⟩
  have r11 := hl.get 11
  rw [hb11] at r11
  have x11 : ∀ v, (Instr.index 9 (SV l) (.int .i64 11)).run Try.prog v = .ok (.int .u8 b11) v := fun v => sv_idx hl 11 b11 (by omega) hb11 v
  rw [hb0] at hsz h1; rw [hb2, hb3] at hal; rw [hb10, hb11] at hck
  have hszr : 20 ≤ (sz : Int) ∧ (sz : Int) ≤ 60 := by omega
  have halr : 0 ≤ al ∧ al ≤ 65535 := by omega
  have hckr : 0 ≤ ck ∧ ck ≤ 65535 := by omega
  have hwal : IntKind.i64.wrap al = al := IntWalk.i64_in _ ⟨by omega, by omega⟩
  have d2 : (b0 / 16 * 16 != 64) = false := by simp; omega
  have d3 : decide ((sz : Int) < 20) = false := decide_eq_false (by omega)
  have d4 : decide (al < (sz : Int)) = false := decide_eq_false (by omega)
  have d5 : decide ((l.length : Int) < al) = false := decide_eq_false (by omega)
  have d6 : decide (al < (l.length : Int)) = false := decide_eq_false (by omega)
  have bCK : Byt CK := by
    rw [← hCK]; intro x hx
    rcases List.mem_append.1 hx with hx | hx
    · exact hl x (List.mem_of_mem_take hx)
    · exact hl x (List.mem_of_mem_drop (List.mem_of_mem_take hx))
  have lCK : CK.length ≤ 70000 := by rw [← hCK]; simp; omega
  have hsr : 0 ≤ sm ∧ sm ≤ 65535 := by rw [← hsm]; exact csum_rng (wk_rng bCK _).1
  have hcsr : 0 ≤ cs ∧ cs ≤ 65535 := by omega
  have HS := hide hsm; have HB := hide bCK; have HC := hide hck
  clear hb0 hb2 hb3 hb10 hb11 hsm bCK hck hcsr
  have hcsr : 0 ≤ cs ∧ cs ≤ 65535 := by omega
  have hu1 : IntKind.u16.wrap cs = cs := by simp [IntKind.wrap, IntKind.bits, IntKind.signed]; omega
  have hu2 : IntKind.u32.wrap cs = cs := by rw [IntKind.wrap_u32]; omega
  have hs1 : (sz : Int).toNat = sz := Int.toNat_natCast sz
  have hl12 : (12 : Int) ≤ (sz : Int) := by omega
  have hlsz : (sz : Int) ≤ (l.length : Int) := by omega
  have hl10 : (10 : Int) ≤ (l.length : Int) := by omega
  have hn10 : 10 ≤ l.length := by omega
  have hnsz : sz ≤ l.length := by omega
  have hn12 : 12 ≤ sz := by omega
  have hmin1 : min 10 l.length = 10 := by omega
  have hmin2 : min (sz - 12) (l.length - 12) = sz - 12 := by omega
  have hadd1 : 10 + (sz - 12) ≤ 9223372036854775807 := by omega
  have hadd2 : (10 : Int) + ((sz - 12 : Nat) : Int) ≤ 9223372036854775807 := by omega
  have hadd3 : ∀ v, (Op.stringOp .add (strOfNums (l.take 10)) (strOfNums ((l.drop 12).take (sz - 12)))).run Try.prog v = .ok (SV CK) v := fun v => by
    refine (run_string_add_sum v _ _ (by rw [sv_size, sv_size, List.length_take, List.length_take, List.length_drop]; omega)).trans ?_
    rw [strOf_app, hCK]
  have hadd4 : ∀ v, (binOp .add 9 (SV (l.take 10)) (SV ((l.drop 12).take (sz - 12)))).run Try.prog v = .ok (SV CK) v := fun v => by
    show Sem.run Try.prog (binOp .add 9 (.string _) (.string _)) v = _
    rw [binOp_string_add]; exact hadd3 v
  clear h4
  have hb1 := e1
  have r1 := hl.get 1
  rw [hb1] at r1
  have x1 : ∀ v, (Instr.index 9 (SV l) (.int .i64 1)).run Try.prog v = .ok (.int .u8 b1) v := fun v => sv_idx hl 1 b1 (by omega) hb1 v
  obtain ⟨b4, hb4⟩ : ∃ x, l.getD 4 0 = x := ⟨_, rfl⟩
  have r4 := hl.get 4
  rw [hb4] at r4
  have x4 : ∀ v, (Instr.index 9 (SV l) (.int .i64 4)).run Try.prog v = .ok (.int .u8 b4) v := fun v => sv_idx hl 4 b4 (by omega) hb4 v
  obtain ⟨b5, hb5⟩ : ∃ x, l.getD 5 0 = x := ⟨_, rfl⟩
  have r5 := hl.get 5
  rw [hb5] at r5
  have x5 : ∀ v, (Instr.index 9 (SV l) (.int .i64 5)).run Try.prog v = .ok (.int .u8 b5) v := fun v => sv_idx hl 5 b5 (by omega) hb5 v
  obtain ⟨b6, hb6⟩ : ∃ x, l.getD 6 0 = x := ⟨_, rfl⟩
  have r6 := hl.get 6
  rw [hb6] at r6
  have x6 : ∀ v, (Instr.index 9 (SV l) (.int .i64 6)).run Try.prog v = .ok (.int .u8 b6) v := fun v => sv_idx hl 6 b6 (by omega) hb6 v
  obtain ⟨b7, hb7⟩ : ∃ x, l.getD 7 0 = x := ⟨_, rfl⟩
  have r7 := hl.get 7
  rw [hb7] at r7
  have x7 : ∀ v, (Instr.index 9 (SV l) (.int .i64 7)).run Try.prog v = .ok (.int .u8 b7) v := fun v => sv_idx hl 7 b7 (by omega) hb7 v
  have hb8 := e8
  have r8 := hl.get 8
  rw [hb8] at r8
  have x8 : ∀ v, (Instr.index 9 (SV l) (.int .i64 8)).run Try.prog v = .ok (.int .u8 b8) v := fun v => sv_idx hl 8 b8 (by omega) hb8 v
  have hb9 := e9
  have r9 := hl.get 9
  rw [hb9] at r9
  have x9 : ∀ v, (Instr.index 9 (SV l) (.int .i64 9)).run Try.prog v = .ok (.int .u8 b9) v := fun v => sv_idx hl 9 b9 (by omega) hb9 v
  obtain ⟨b12, hb12⟩ : ∃ x, l.getD 12 0 = x := ⟨_, rfl⟩
  have r12 := hl.get 12
  rw [hb12] at r12
  have x12 : ∀ v, (Instr.index 9 (SV l) (.int .i64 12)).run Try.prog v = .ok (.int .u8 b12) v := fun v => sv_idx hl 12 b12 (by omega) hb12 v
  obtain ⟨b13, hb13⟩ : ∃ x, l.getD 13 0 = x := ⟨_, rfl⟩
  have r13 := hl.get 13
  rw [hb13] at r13
  have x13 : ∀ v, (Instr.index 9 (SV l) (.int .i64 13)).run Try.prog v = .ok (.int .u8 b13) v := fun v => sv_idx hl 13 b13 (by omega) hb13 v
  obtain ⟨b14, hb14⟩ : ∃ x, l.getD 14 0 = x := ⟨_, rfl⟩
  have r14 := hl.get 14
  rw [hb14] at r14
  have x14 : ∀ v, (Instr.index 9 (SV l) (.int .i64 14)).run Try.prog v = .ok (.int .u8 b14) v := fun v => sv_idx hl 14 b14 (by omega) hb14 v
  obtain ⟨b15, hb15⟩ : ∃ x, l.getD 15 0 = x := ⟨_, rfl⟩
  have r15 := hl.get 15
  rw [hb15] at r15
  have x15 : ∀ v, (Instr.index 9 (SV l) (.int .i64 15)).run Try.prog v = .ok (.int .u8 b15) v := fun v => sv_idx hl 15 b15 (by omega) hb15 v
  obtain ⟨b16, hb16⟩ : ∃ x, l.getD 16 0 = x := ⟨_, rfl⟩
  have r16 := hl.get 16
  rw [hb16] at r16
  have x16 : ∀ v, (Instr.index 9 (SV l) (.int .i64 16)).run Try.prog v = .ok (.int .u8 b16) v := fun v => sv_idx hl 16 b16 (by omega) hb16 v
  obtain ⟨b17, hb17⟩ : ∃ x, l.getD 17 0 = x := ⟨_, rfl⟩
  have r17 := hl.get 17
  rw [hb17] at r17
  have x17 : ∀ v, (Instr.index 9 (SV l) (.int .i64 17)).run Try.prog v = .ok (.int .u8 b17) v := fun v => sv_idx hl 17 b17 (by omega) hb17 v
  obtain ⟨b18, hb18⟩ : ∃ x, l.getD 18 0 = x := ⟨_, rfl⟩
  have r18 := hl.get 18
  rw [hb18] at r18
  have x18 : ∀ v, (Instr.index 9 (SV l) (.int .i64 18)).run Try.prog v = .ok (.int .u8 b18) v := fun v => sv_idx hl 18 b18 (by omega) hb18 v
  obtain ⟨b19, hb19⟩ : ∃ x, l.getD 19 0 = x := ⟨_, rfl⟩
  have r19 := hl.get 19
  rw [hb19] at r19
  have x19 : ∀ v, (Instr.index 9 (SV l) (.int .i64 19)).run Try.prog v = .ok (.int .u8 b19) v := fun v => sv_idx hl 19 b19 (by omega) hb19 v
  rw [hb4, hb5] at e4; rw [hb6, hb7] at e6; rw [hb12, hb13, hb14, hb15] at e12; rw [hb16, hb17, hb18, hb19] at e16
  have E4 := hide e4; have E6 := hide e6; have E12 := hide e12; have E16 := hide e16
  have pr4 : 0 ≤ id ∧ id ≤ 65535 := by omega
  have pr6 : 0 ≤ pt ∧ pt ≤ 65535 := by omega
  have prf : 0 ≤ fl ∧ fl ≤ 7 := by omega
  have pro : 0 ≤ off ∧ off ≤ 8191 := by omega
  have hv1 : IntKind.u16.wrap id = id := by simp [IntKind.wrap, IntKind.bits, IntKind.signed]; omega
  have hv2 : IntKind.u16.wrap pt = pt := by simp [IntKind.wrap, IntKind.bits, IntKind.signed]; omega
  have hv3 : IntKind.u8.wrap fl = fl := by rw [IntKind.wrap_u8]; omega
  have hl20 : (20 : Int) ≤ (sz : Int) := by omega
  have hn20 : 20 ≤ sz := h2
  have d7 : (ck != cs) = false := by simp [heq]
  have ht1 : pt.tmod 8192 = off := by rw [Int.tmod_eq_emod_of_nonneg pr6.1]; exact eoff
  clear hb1 hb4 hb5 hb6 hb7 hb8 hb9 hb12 hb13 hb14 hb15 hb16 hb17 hb18 hb19 e1 e8 e9 e4 e6 e12 e16
  go_enter Try.func47, Try.ntmps47
  go_upto_region 4 with (fail)
  go_cut [6] (fun s6 wx => s6 = .int .i64 al ∧ Below w.heap.size w wx ∧ Blk wx (w.heap.size) #[.int .u8 0, .int .u16 0, .int .u8 0, .int .u16 0, .int .u8 0, .int .u8 0, .int .u32 0, .int .u32 0, .string ⟨#[]⟩] 70)
  case first =>
    go_region_with (first
      | (go_at_call 63; (with_reducible refine (ipJoin2 b2 b3 _ _ r2 r3 al hal (by simp) (by simp)).mono ?_); rintro e w' ⟨rfl, rfl⟩))
    all_goals
      go_wp2_with fail
      go_meet
      exact ⟨rfl, by (repeat' (first | (with_reducible (first | exact Below.refl _ _ | assumption | refine below_drewN ?_ _ | refine Below.drew ?_ | refine Below.alloc ?_ ?_ _ | refine Below.setCell ?_ ?_ _)) | go_size)), by (repeat' (first | (with_reducible (first | assumption | exact Blk.alloc_new _ _ _ (by first | rfl | (simp; done) | omega) | apply Blk.drewN | apply Blk.drew | apply Blk.alloc_old | apply Blk.set_same | apply Blk.set_other)) | (show (_ : Nat) ≠ _; first | omega | (simp; done) | (simp; omega)) | ((simp only [List.setIfInBounds_toArray, List.set_cons_succ, List.set_cons_zero]); (with_reducible exact rfl)) | (with_reducible exact rfl) | (show (_ : Array Value) = _; exact rfl)))⟩
  case rest =>
    obtain ⟨rfl, g3, R3⟩ := hcut
    have cR := R3.cell; have fR := R3.frozen; have zR := R3.size
    have hz3 := g3.size
    go_upto_region 11 with (fail)
    go_cut [53] (fun s53 wx => s53 = .bool false ∧ Below w.heap.size w wx ∧ Blk wx (w.heap.size) #[.int .u8 0, .int .u16 0, .int .u8 0, .int .u16 0, .int .u8 0, .int .u8 0, .int .u32 0, .int .u32 0, .string ⟨#[]⟩] 70)
    case first =>
      go_region_held3 (fun v => Below w.heap.size w v ∧ Blk v (w.heap.size) #[.int .u8 0, .int .u16 0, .int .u8 0, .int .u16 0, .int .u8 0, .int .u8 0, .int .u32 0, .int .u32 0, .string ⟨#[]⟩] 70)
        (first
          | (refine ⟨?_, ?_⟩ <;> first | (with_reducible assumption) | ((repeat' (first | (with_reducible (first | exact Below.refl _ _ | assumption | refine below_drewN ?_ _ | refine Below.drew ?_ | refine Below.alloc ?_ ?_ _ | refine Below.setCell ?_ ?_ _)) | go_size)); done) | ((repeat' (first | (with_reducible (first | assumption | exact Blk.alloc_new _ _ _ (by first | rfl | (simp; done) | omega) | apply Blk.drewN | apply Blk.drew | apply Blk.alloc_old | apply Blk.set_same | apply Blk.set_other)) | (show (_ : Nat) ≠ _; first | omega | (simp; done) | (simp; omega)) | ((simp only [List.setIfInBounds_toArray, List.set_cons_succ, List.set_cons_zero]); (with_reducible exact rfl)) | (with_reducible exact rfl) | (show (_ : Array Value) = _; exact rfl))); done)))
        (first
        | (go_at_call 63; (with_reducible refine (ipJoin2 b10 b11 _ _ r10 r11 ck HC.out (by simp) (by simp)).mono ?_); rintro e w' ⟨rfl, rfl⟩)
        | (go_at_call 57; (with_reducible refine (ipSum CK _ HB.out (by omega) sm HS.out).mono ?_); rintro e w' ⟨rfl, rfl⟩))
      all_goals
        go_wp2_with fail
        go_meet
        exact ⟨rfl, by (repeat' (first | (with_reducible (first | exact Below.refl _ _ | assumption | refine below_drewN ?_ _ | refine Below.drew ?_ | refine Below.alloc ?_ ?_ _ | refine Below.setCell ?_ ?_ _)) | go_size)), by (repeat' (first | (with_reducible (first | assumption | exact Blk.alloc_new _ _ _ (by first | rfl | (simp; done) | omega) | apply Blk.drewN | apply Blk.drew | apply Blk.alloc_old | apply Blk.set_same | apply Blk.set_other)) | (show (_ : Nat) ≠ _; first | omega | (simp; done) | (simp; omega)) | ((simp only [List.setIfInBounds_toArray, List.set_cons_succ, List.set_cons_zero]); (with_reducible exact rfl)) | (with_reducible exact rfl) | (show (_ : Array Value) = _; exact rfl)))⟩
    case rest =>
      obtain ⟨rfl, g5, R5⟩ := hcut
      clear cR fR zR
      have cR := R5.cell; have fR := R5.frozen; have zR := R5.size
      have hz5 := g5.size
      go_upto_region 13 with (fail)
      go_cut [7] (fun s7 wx => s7 = .int .u16 pt ∧ Below w.heap.size w wx ∧ Blk wx (w.heap.size) #[.int .u8 0, .int .u16 0, .int .u8 0, .int .u16 0, .int .u8 0, .int .u8 0, .int .u32 0, .int .u32 0, .string ⟨#[]⟩] 70)
      case first =>
        go_region_with (first
          | (go_at_call 63; (with_reducible refine (ipJoin2 b6 b7 _ _ r6 r7 pt E6.out (by simp) (by simp)).mono ?_); rintro e w' ⟨rfl, rfl⟩))
        all_goals
          go_wp2_with fail
          go_meet
          exact ⟨rfl, by (repeat' (first | (with_reducible (first | exact Below.refl _ _ | assumption | refine below_drewN ?_ _ | refine Below.drew ?_ | refine Below.alloc ?_ ?_ _ | refine Below.setCell ?_ ?_ _)) | go_size)), by (repeat' (first | (with_reducible (first | assumption | exact Blk.alloc_new _ _ _ (by first | rfl | (simp; done) | omega) | apply Blk.drewN | apply Blk.drew | apply Blk.alloc_old | apply Blk.set_same | apply Blk.set_other)) | (show (_ : Nat) ≠ _; first | omega | (simp; done) | (simp; omega)) | ((simp only [List.setIfInBounds_toArray, List.set_cons_succ, List.set_cons_zero]); (with_reducible exact rfl)) | (with_reducible exact rfl) | (show (_ : Array Value) = _; exact rfl)))⟩
      case rest =>
        obtain ⟨rfl, g6, R6⟩ := hcut
        clear cR fR zR
        have cR := R6.cell; have fR := R6.frozen; have zR := R6.size
        have hz6 := g6.size
        go_upto_region 14 with (fail)
        go_cut [8] (fun s8 wx => ∃ X, s8 = .pointer (some ⟨X, 0, none⟩) ∧ w.heap.size < X ∧ Below w.heap.size w wx ∧ Blk wx (w.heap.size) #[.int .u8 0, .int .u16 0, .int .u8 0, .int .u16 0, .int .u8 0, .int .u8 0, .int .u32 0, .int .u32 0, .string ⟨#[]⟩] 70 ∧ Blk wx X #[.int .u8 b1, .int .u16 id, .int .u8 fl, .int .u16 off, .int .u8 b8, .int .u8 b9, .int .u32 0, .int .u32 0, .string ⟨#[]⟩] 70)
        case first =>
          refine wp_region_guarT 20 [.val (SV l), .val (.int .u8 (b1)), .val (SV l), .val (.int .u8 (b4)), .val (SV l), .val (.int .u8 (b5)), .cells #[.int .u8 b4, .int .u8 b5] 5, .val (.int .u32 (id)), .val (.int .u16 (id)), .val (.int .u16 (pt)), .val (.int .u16 (fl)), .val (.int .u8 (fl)), .val (.int .u16 (pt)), .val (.int .u16 (off)), .val (SV l), .val (.int .u8 (b8)), .val (SV l), .val (.int .u8 (b9)), .val (.agg #[.int .u8 b1, .int .u16 id, .int .u8 fl, .int .u16 off, .int .u8 b8, .int .u8 b9, .int .u32 0, .int .u32 0, .string ⟨#[]⟩]), .ptr #[.int .u8 0, .int .u16 0, .int .u8 0, .int .u16 0, .int .u8 0, .int .u8 0, .int .u32 0, .int .u32 0, .string ⟨#[]⟩] 70] (by kernel_rfl) (by kernel_rfl) (by simp) (by kernel_rfl) (by kernel_rfl) ?_ ?_
          · refine ⟨?_, ?_, ?_, ?_, ?_, ?_, ?_, ?_, ?_, ?_, ?_, ?_, ?_, ?_, ?_, ?_, ?_, ?_, ?_, ?_, trivial⟩
            · intro a v c
              have e0 : a.eval (.tmp 0) = SV l := (c.off 0 (by kernel_rfl)).trans rfl
              have f0 := (eval_opt a 0).trans e0
              refine gvalT (SV l) (by simp only [execOp, e0]; go_simp) rfl
            · intro a v c
              have e78 : a.eval (.tmp 78) = SV l := c.dep 0 _ 78 (by kernel_rfl) rfl rfl
              have f78 := (eval_opt a 78).trans e78
              refine gvalT (.int .u8 (b1)) (by simp only [execOp, e78]; go_simp) rfl
            · intro a v c
              have e0 : a.eval (.tmp 0) = SV l := (c.off 0 (by kernel_rfl)).trans rfl
              have f0 := (eval_opt a 0).trans e0
              refine gvalT (SV l) (by simp only [execOp, e0]; go_simp) rfl
            · intro a v c
              have e80 : a.eval (.tmp 80) = SV l := c.dep 2 _ 80 (by kernel_rfl) rfl rfl
              have f80 := (eval_opt a 80).trans e80
              refine gvalT (.int .u8 (b4)) (by simp only [execOp, e80]; go_simp) rfl
            · intro a v c
              have e0 : a.eval (.tmp 0) = SV l := (c.off 0 (by kernel_rfl)).trans rfl
              have f0 := (eval_opt a 0).trans e0
              refine gvalT (SV l) (by simp only [execOp, e0]; go_simp) rfl
            · intro a v c
              have e82 : a.eval (.tmp 82) = SV l := c.dep 4 _ 82 (by kernel_rfl) rfl rfl
              have f82 := (eval_opt a 82).trans e82
              refine gvalT (.int .u8 (b5)) (by simp only [execOp, e82]; go_simp) rfl
            · intro a v c
              have e81 : a.eval (.tmp 81) = .int .u8 (b4) := c.dep 3 _ 81 (by kernel_rfl) rfl rfl
              have e83 : a.eval (.tmp 83) = .int .u8 (b5) := c.dep 5 _ 83 (by kernel_rfl) rfl rfl
              have f81 := (eval_opt a 81).trans e81
              have f83 := (eval_opt a 83).trans e83
              refine gsliceT #[.int .u8 b4, .int .u8 b5] 5 rfl (by simp only [execOp, e81, e83]; go_simp)
            · intro a v c
              obtain ⟨B84, e84, hB84⟩ : ∃ b, a.eval (.tmp 84) = .slice (some ⟨b, 0, none⟩) 2 2 ∧ Blk v b #[.int .u8 b4, .int .u8 b5] 5 := c.dep 6 _ 84 (by kernel_rfl) rfl rfl
              have cB84 := hB84.cell
              have f84 := (eval_opt a 84).trans e84
              refine gcallT (.int .u32 (id)) 63 #[.slice (some ⟨B84, 0, none⟩) 2 2] (by simp only [execOp, e84]; go_simp) ((ipJoin2 b4 b5 B84 v r4 r5 id E4.out (by rw [cB84]; rfl) (by rw [cB84]; rfl)).mono (fun _ _ ⟨h, e⟩ => ⟨h, e ▸ Below.refl _ _⟩)) (fun _ => rfl)
            · intro a v c
              have e85 : a.eval (.tmp 85) = .int .u32 (id) := c.dep 7 _ 85 (by kernel_rfl) rfl rfl
              have f85 := (eval_opt a 85).trans e85
              refine gvalT (.int .u16 (id)) (by simp only [execOp, e85]; go_simp) rfl
            · intro a v c
              have e7 : a.eval (.tmp 7) = .int .u16 pt := (c.off 7 (by kernel_rfl)).trans rfl
              have f7 := (eval_opt a 7).trans e7
              refine gvalT (.int .u16 (pt)) (by simp only [execOp, e7]; go_simp) rfl
            · intro a v c
              have e87 : a.eval (.tmp 87) = .int .u16 (pt) := c.dep 9 _ 87 (by kernel_rfl) rfl rfl
              have f87 := (eval_opt a 87).trans e87
              refine gvalT (.int .u16 (fl)) (by simp only [execOp, e87]; go_simp) rfl
            · intro a v c
              have e88 : a.eval (.tmp 88) = .int .u16 (fl) := c.dep 10 _ 88 (by kernel_rfl) rfl rfl
              have f88 := (eval_opt a 88).trans e88
              refine gvalT (.int .u8 (fl)) (by simp only [execOp, e88]; go_simp) rfl
            · intro a v c
              have e7 : a.eval (.tmp 7) = .int .u16 pt := (c.off 7 (by kernel_rfl)).trans rfl
              have f7 := (eval_opt a 7).trans e7
              refine gvalT (.int .u16 (pt)) (by simp only [execOp, e7]; go_simp) rfl
            · intro a v c
              have e90 : a.eval (.tmp 90) = .int .u16 (pt) := c.dep 12 _ 90 (by kernel_rfl) rfl rfl
              have f90 := (eval_opt a 90).trans e90
              refine gvalT (.int .u16 (off)) (by simp only [execOp, e90]; go_simp) rfl
            · intro a v c
              have e0 : a.eval (.tmp 0) = SV l := (c.off 0 (by kernel_rfl)).trans rfl
              have f0 := (eval_opt a 0).trans e0
              refine gvalT (SV l) (by simp only [execOp, e0]; go_simp) rfl
            · intro a v c
              have e92 : a.eval (.tmp 92) = SV l := c.dep 14 _ 92 (by kernel_rfl) rfl rfl
              have f92 := (eval_opt a 92).trans e92
              refine gvalT (.int .u8 (b8)) (by simp only [execOp, e92]; go_simp) rfl
            · intro a v c
              have e0 : a.eval (.tmp 0) = SV l := (c.off 0 (by kernel_rfl)).trans rfl
              have f0 := (eval_opt a 0).trans e0
              refine gvalT (SV l) (by simp only [execOp, e0]; go_simp) rfl
            · intro a v c
              have e94 : a.eval (.tmp 94) = SV l := c.dep 16 _ 94 (by kernel_rfl) rfl rfl
              have f94 := (eval_opt a 94).trans e94
              refine gvalT (.int .u8 (b9)) (by simp only [execOp, e94]; go_simp) rfl
            · intro a v c
              have e79 : a.eval (.tmp 79) = .int .u8 (b1) := c.dep 1 _ 79 (by kernel_rfl) rfl rfl
              have e86 : a.eval (.tmp 86) = .int .u16 (id) := c.dep 8 _ 86 (by kernel_rfl) rfl rfl
              have e89 : a.eval (.tmp 89) = .int .u8 (fl) := c.dep 11 _ 89 (by kernel_rfl) rfl rfl
              have e91 : a.eval (.tmp 91) = .int .u16 (off) := c.dep 13 _ 91 (by kernel_rfl) rfl rfl
              have e93 : a.eval (.tmp 93) = .int .u8 (b8) := c.dep 15 _ 93 (by kernel_rfl) rfl rfl
              have e95 : a.eval (.tmp 95) = .int .u8 (b9) := c.dep 17 _ 95 (by kernel_rfl) rfl rfl
              have f79 := (eval_opt a 79).trans e79
              have f86 := (eval_opt a 86).trans e86
              have f89 := (eval_opt a 89).trans e89
              have f91 := (eval_opt a 91).trans e91
              have f93 := (eval_opt a 93).trans e93
              have f95 := (eval_opt a 95).trans e95
              refine gvalT (.agg #[.int .u8 b1, .int .u16 id, .int .u8 fl, .int .u16 off, .int .u8 b8, .int .u8 b9, .int .u32 0, .int .u32 0, .string ⟨#[]⟩]) (by simp only [execOp, e79, e86, e89, e91, e93, e95]; go_simp) rfl
            · intro a v c
              refine gptrT #[.int .u8 0, .int .u16 0, .int .u8 0, .int .u16 0, .int .u8 0, .int .u8 0, .int .u32 0, .int .u32 0, .string ⟨#[]⟩] 70 rfl (by have := c.below.size; simpa using this) (by simp only [execOp]; go_simp)
          · intro a v hb hd ho hs hf
            obtain ⟨PX, e8, hPX, hX0⟩ : ∃ b, a.eval (.tmp 8) = .pointer (some ⟨b, 0, none⟩) ∧ _ ∧ Blk v b #[.int .u8 0, .int .u16 0, .int .u8 0, .int .u16 0, .int .u8 0, .int .u8 0, .int .u32 0, .int .u32 0, .string ⟨#[]⟩] 70 := hd 19 _ 8 (by omega) rfl rfl
            have e96 : a.eval (.tmp 96) = .agg #[.int .u8 b1, .int .u16 id, .int .u8 fl, .int .u16 off, .int .u8 b8, .int .u8 b9, .int .u32 0, .int .u32 0, .string ⟨#[]⟩] := hd 18 _ 96 (by omega) rfl rfl
            refine store_blk 70 (.tmp 8) (.tmp 96) PX #[.int .u8 0, .int .u16 0, .int .u8 0, .int .u16 0, .int .u8 0, .int .u8 0, .int .u32 0, .int .u32 0, .string ⟨#[]⟩] #[.int .u8 b1, .int .u16 id, .int .u8 fl, .int .u16 off, .int .u8 b8, .int .u8 b9, .int .u32 0, .int .u32 0, .string ⟨#[]⟩] 70 (by rfl) (by rfl) e8 e96 hX0 rfl (by kernel_rfl) (by simp [Value.oneCell']) ?_
            intro v2 X2 kB2 kO2 hs2
            have hP : w.heap.size < PX := by have h1 : wc.heap.size ≤ PX := hPX; omega
            have gB : Below w.heap.size w v2 := kB2 _ _ (by omega) (g6.trans (hb.mono g6.size))
            have RB : Blk v2 (w.heap.size) #[.int .u8 0, .int .u16 0, .int .u8 0, .int .u16 0, .int .u8 0, .int .u8 0, .int .u32 0, .int .u32 0, .string ⟨#[]⟩] 70 := kO2 _ _ _ (by omega) (Blk.below R6 hb R6.size)
            show wpList _ _ _ [] a v2
            rw [frame_eta a 127 hs, hf]
            simp only [List.range, List.range.loop, List.map_cons, List.map_nil, e8, ho 0 (by kernel_rfl), ho 1 (by kernel_rfl), ho 2 (by kernel_rfl), ho 3 (by kernel_rfl), ho 4 (by kernel_rfl), ho 5 (by kernel_rfl), ho 6 (by kernel_rfl), ho 7 (by kernel_rfl), ho 9 (by kernel_rfl), ho 10 (by kernel_rfl), ho 11 (by kernel_rfl), ho 12 (by kernel_rfl), ho 13 (by kernel_rfl), ho 14 (by kernel_rfl), ho 15 (by kernel_rfl), ho 16 (by kernel_rfl), ho 17 (by kernel_rfl), ho 18 (by kernel_rfl), ho 19 (by kernel_rfl), ho 20 (by kernel_rfl), ho 21 (by kernel_rfl), ho 22 (by kernel_rfl), ho 23 (by kernel_rfl), ho 24 (by kernel_rfl), ho 25 (by kernel_rfl), ho 26 (by kernel_rfl), ho 27 (by kernel_rfl), ho 28 (by kernel_rfl), ho 29 (by kernel_rfl), ho 30 (by kernel_rfl), ho 31 (by kernel_rfl), ho 32 (by kernel_rfl), ho 33 (by kernel_rfl), ho 34 (by kernel_rfl), ho 35 (by kernel_rfl), ho 36 (by kernel_rfl), ho 37 (by kernel_rfl), ho 38 (by kernel_rfl), ho 39 (by kernel_rfl), ho 40 (by kernel_rfl), ho 41 (by kernel_rfl), ho 42 (by kernel_rfl), ho 43 (by kernel_rfl), ho 44 (by kernel_rfl), ho 45 (by kernel_rfl), ho 46 (by kernel_rfl), ho 47 (by kernel_rfl), ho 48 (by kernel_rfl), ho 49 (by kernel_rfl), ho 50 (by kernel_rfl), ho 51 (by kernel_rfl), ho 52 (by kernel_rfl), ho 53 (by kernel_rfl), ho 54 (by kernel_rfl), ho 55 (by kernel_rfl), ho 56 (by kernel_rfl), ho 57 (by kernel_rfl), ho 58 (by kernel_rfl), ho 59 (by kernel_rfl), ho 60 (by kernel_rfl), ho 61 (by kernel_rfl), ho 62 (by kernel_rfl), ho 63 (by kernel_rfl), ho 64 (by kernel_rfl), ho 65 (by kernel_rfl), ho 66 (by kernel_rfl), ho 67 (by kernel_rfl), ho 68 (by kernel_rfl), ho 69 (by kernel_rfl), ho 70 (by kernel_rfl), ho 71 (by kernel_rfl), ho 72 (by kernel_rfl), ho 73 (by kernel_rfl), ho 74 (by kernel_rfl), ho 75 (by kernel_rfl), ho 76 (by kernel_rfl), ho 77 (by kernel_rfl), ho 97 (by kernel_rfl), ho 98 (by kernel_rfl), ho 99 (by kernel_rfl), ho 100 (by kernel_rfl), ho 101 (by kernel_rfl), ho 102 (by kernel_rfl), ho 103 (by kernel_rfl), ho 104 (by kernel_rfl), ho 105 (by kernel_rfl), ho 106 (by kernel_rfl), ho 107 (by kernel_rfl), ho 108 (by kernel_rfl), ho 109 (by kernel_rfl), ho 110 (by kernel_rfl), ho 111 (by kernel_rfl), ho 112 (by kernel_rfl), ho 113 (by kernel_rfl), ho 114 (by kernel_rfl), ho 115 (by kernel_rfl), ho 116 (by kernel_rfl), ho 117 (by kernel_rfl), ho 118 (by kernel_rfl), ho 119 (by kernel_rfl), ho 120 (by kernel_rfl), ho 121 (by kernel_rfl), ho 122 (by kernel_rfl), ho 123 (by kernel_rfl), ho 124 (by kernel_rfl), ho 125 (by kernel_rfl), ho 126 (by kernel_rfl)]
            clear hd ho hf hs e8 e96 hb
            generalize a.eval (.tmp 78) = u78; generalize a.eval (.tmp 79) = u79; generalize a.eval (.tmp 80) = u80; generalize a.eval (.tmp 81) = u81; generalize a.eval (.tmp 82) = u82; generalize a.eval (.tmp 83) = u83; generalize a.eval (.tmp 84) = u84; generalize a.eval (.tmp 85) = u85; generalize a.eval (.tmp 86) = u86; generalize a.eval (.tmp 87) = u87; generalize a.eval (.tmp 88) = u88; generalize a.eval (.tmp 89) = u89; generalize a.eval (.tmp 90) = u90; generalize a.eval (.tmp 91) = u91; generalize a.eval (.tmp 92) = u92; generalize a.eval (.tmp 93) = u93; generalize a.eval (.tmp 94) = u94; generalize a.eval (.tmp 95) = u95; generalize a.eval (.tmp 96) = u96
            clear a
            go_simp
            go_wp2_with fail
            go_meet
            exact ⟨_, rfl, hP, gB, RB, X2⟩
        case rest =>
          obtain ⟨PX, rfl, hPX, g7, R7, X7⟩ := hcut
          clear cR fR zR
          have cR := R7.cell; have fR := R7.frozen; have zR := R7.size
          have cX := X7.cell; have fX := X7.frozen; have zX := X7.size
          have hz7 := g7.size
          go_upto_region 15 with (fail)
          go_cut [106] (fun s106 wx => s106 = .int .u32 src ∧ Below w.heap.size w wx ∧ Blk wx (w.heap.size) #[.int .u8 0, .int .u16 0, .int .u8 0, .int .u16 0, .int .u8 0, .int .u8 0, .int .u32 0, .int .u32 0, .string ⟨#[]⟩] 70 ∧ Blk wx PX #[.int .u8 b1, .int .u16 id, .int .u8 fl, .int .u16 off, .int .u8 b8, .int .u8 b9, .int .u32 src, .int .u32 dst, .string ⟨#[]⟩] 70)
          case first =>
            refine wp_region_guarS (w.heap.size) (wc.heap.size) [(w.heap.size, #[.int .u8 0, .int .u16 0, .int .u8 0, .int .u16 0, .int .u8 0, .int .u8 0, .int .u32 0, .int .u32 0, .string ⟨#[]⟩], 70)] [] [(PX, #[.int .u8 b1, .int .u16 id, .int .u8 fl, .int .u16 off, .int .u8 b8, .int .u8 b9, .int .u32 src, .int .u32 dst, .string ⟨#[]⟩], 70)] [(PX, 0, .int .u8 b1), (PX, 1, .int .u16 id), (PX, 2, .int .u8 fl), (PX, 3, .int .u16 off), (PX, 4, .int .u8 b8), (PX, 5, .int .u8 b9), (PX, 6, .int .u32 src), (PX, 7, .int .u32 dst), (PX, 8, .string ⟨#[]⟩)] [.val (SV l), .val (.int .u8 (b12)), .val (SV l), .val (.int .u8 (b13)), .val (SV l), .val (.int .u8 (b14)), .val (SV l), .val (.int .u8 (b15)), .cells #[.int .u8 b12, .int .u8 b13, .int .u8 b14, .int .u8 b15] 5, .val (.int .u32 (src)), .val (SV l), .val (.int .u8 (b16)), .val (SV l), .val (.int .u8 (b17)), .val (SV l), .val (.int .u8 (b18)), .val (SV l), .val (.int .u8 (b19)), .cells #[.int .u8 b16, .int .u8 b17, .int .u8 b18, .int .u8 b19] 5, .val (.int .u32 (dst)), .val (.pointer (some ⟨PX, 6, none⟩)), .sets [6], .val (.pointer (some ⟨PX, 7, none⟩)), .sets [7]] (by kernel_rfl) (by kernel_rfl) (by omega) (by omega) (by intro f m; simp only [List.mem_cons, List.not_mem_nil, or_false, List.append_nil, List.nil_append, List.cons_append] at m; rcases m with rfl <;> ((show Blk _ _ _ _) <;> (repeat' (first | (with_reducible (first | assumption | exact Blk.alloc_new _ _ _ (by first | rfl | (simp; done) | omega) | apply Blk.drewN | apply Blk.drew | apply Blk.alloc_old | apply Blk.set_same | apply Blk.set_other)) | (show (_ : Nat) ≠ _; first | omega | (simp; done) | (simp; omega)) | ((simp only [List.setIfInBounds_toArray, List.set_cons_succ, List.set_cons_zero]); (with_reducible exact rfl)) | (with_reducible exact rfl) | (show (_ : Array Value) = _; exact rfl))))) (by intro f m; simp only [List.mem_cons, List.not_mem_nil, or_false, List.append_nil, List.nil_append, List.cons_append] at m; rcases m with rfl <;> (first | (exact ⟨#[.int .u8 b1, .int .u16 id, .int .u8 fl, .int .u16 off, .int .u8 b8, .int .u8 b9, .int .u32 0, .int .u32 0, .string ⟨#[]⟩], rfl, by (repeat' (first | (with_reducible (first | assumption | exact Blk.alloc_new _ _ _ (by first | rfl | (simp; done) | omega) | apply Blk.drewN | apply Blk.drew | apply Blk.alloc_old | apply Blk.set_same | apply Blk.set_other)) | (show (_ : Nat) ≠ _; first | omega | (simp; done) | (simp; omega)) | ((simp only [List.setIfInBounds_toArray, List.set_cons_succ, List.set_cons_zero]); (with_reducible exact rfl)) | (with_reducible exact rfl) | (show (_ : Array Value) = _; exact rfl)))⟩))) ?_ ?_
            · refine ⟨?_, ?_, ?_, ?_, ?_, ?_, ?_, ?_, ?_, ?_, ?_, ?_, ?_, ?_, ?_, ?_, ?_, ?_, ?_, ?_, ?_, ?_, ?_, ?_, trivial⟩
              · intro a v c
                have e0 : a.eval (.tmp 0) = SV l := (c.off 0 (by kernel_rfl)).trans rfl
                have f0 := (eval_opt a 0).trans e0
                exact gvalS (SV l) (by simp only [execOp, f0, e0]; go_simp) rfl
              · intro a v c
                have e97 : a.eval (.tmp 97) = SV l := c.dep 0 _ (by kernel_rfl) rfl
                have f97 := (eval_opt a 97).trans e97
                exact gvalS (.int .u8 (b12)) (by simp only [execOp, f97, e97]; go_simp) rfl
              · intro a v c
                have e0 : a.eval (.tmp 0) = SV l := (c.off 0 (by kernel_rfl)).trans rfl
                have f0 := (eval_opt a 0).trans e0
                exact gvalS (SV l) (by simp only [execOp, f0, e0]; go_simp) rfl
              · intro a v c
                have e99 : a.eval (.tmp 99) = SV l := c.dep 2 _ (by kernel_rfl) rfl
                have f99 := (eval_opt a 99).trans e99
                exact gvalS (.int .u8 (b13)) (by simp only [execOp, f99, e99]; go_simp) rfl
              · intro a v c
                have e0 : a.eval (.tmp 0) = SV l := (c.off 0 (by kernel_rfl)).trans rfl
                have f0 := (eval_opt a 0).trans e0
                exact gvalS (SV l) (by simp only [execOp, f0, e0]; go_simp) rfl
              · intro a v c
                have e101 : a.eval (.tmp 101) = SV l := c.dep 4 _ (by kernel_rfl) rfl
                have f101 := (eval_opt a 101).trans e101
                exact gvalS (.int .u8 (b14)) (by simp only [execOp, f101, e101]; go_simp) rfl
              · intro a v c
                have e0 : a.eval (.tmp 0) = SV l := (c.off 0 (by kernel_rfl)).trans rfl
                have f0 := (eval_opt a 0).trans e0
                exact gvalS (SV l) (by simp only [execOp, f0, e0]; go_simp) rfl
              · intro a v c
                have e103 : a.eval (.tmp 103) = SV l := c.dep 6 _ (by kernel_rfl) rfl
                have f103 := (eval_opt a 103).trans e103
                exact gvalS (.int .u8 (b15)) (by simp only [execOp, f103, e103]; go_simp) rfl
              · intro a v c
                have e98 : a.eval (.tmp 98) = .int .u8 (b12) := c.dep 1 _ (by kernel_rfl) rfl
                have e100 : a.eval (.tmp 100) = .int .u8 (b13) := c.dep 3 _ (by kernel_rfl) rfl
                have e102 : a.eval (.tmp 102) = .int .u8 (b14) := c.dep 5 _ (by kernel_rfl) rfl
                have e104 : a.eval (.tmp 104) = .int .u8 (b15) := c.dep 7 _ (by kernel_rfl) rfl
                have f98 := (eval_opt a 98).trans e98
                have f100 := (eval_opt a 100).trans e100
                have f102 := (eval_opt a 102).trans e102
                have f104 := (eval_opt a 104).trans e104
                exact gsliceS #[.int .u8 b12, .int .u8 b13, .int .u8 b14, .int .u8 b15] 5 rfl rfl c.low c.high (by simp only [execOp, f98, f100, f102, f104, e98, e100, e102, e104]; go_simp)
              · intro a v c
                obtain ⟨B105, e105, hB105, kB105⟩ : ∃ b, a.eval (.tmp 105) = .slice (some ⟨b, 0, none⟩) 4 4 ∧ _ ≤ b ∧ Blk v b #[.int .u8 b12, .int .u8 b13, .int .u8 b14, .int .u8 b15] 5 := c.dep 8 _ (by kernel_rfl) rfl
                have cB105 := kB105.cell; have zB105 := kB105.size; have fB105 := kB105.frozen
                have f105 := (eval_opt a 105).trans e105
                exact gcallS (.int .u32 (src)) 63 #[.slice (some ⟨B105, 0, none⟩) 4 4] c.low (by simp only [execOp, f105, e105]; go_simp) ((ipJoin4 b12 b13 b14 b15 B105 v r12 r13 r14 r15 src E12.out (by rw [cB105]; rfl) (by rw [cB105]; rfl) (by rw [cB105]; rfl) (by rw [cB105]; rfl)).mono (fun _ _ ⟨h, e⟩ => ⟨h, e ▸ Below.refl _ _⟩)) (fun _ => rfl)
              · intro a v c
                have e0 : a.eval (.tmp 0) = SV l := (c.off 0 (by kernel_rfl)).trans rfl
                have f0 := (eval_opt a 0).trans e0
                exact gvalS (SV l) (by simp only [execOp, f0, e0]; go_simp) rfl
              · intro a v c
                have e107 : a.eval (.tmp 107) = SV l := c.dep 10 _ (by kernel_rfl) rfl
                have f107 := (eval_opt a 107).trans e107
                exact gvalS (.int .u8 (b16)) (by simp only [execOp, f107, e107]; go_simp) rfl
              · intro a v c
                have e0 : a.eval (.tmp 0) = SV l := (c.off 0 (by kernel_rfl)).trans rfl
                have f0 := (eval_opt a 0).trans e0
                exact gvalS (SV l) (by simp only [execOp, f0, e0]; go_simp) rfl
              · intro a v c
                have e109 : a.eval (.tmp 109) = SV l := c.dep 12 _ (by kernel_rfl) rfl
                have f109 := (eval_opt a 109).trans e109
                exact gvalS (.int .u8 (b17)) (by simp only [execOp, f109, e109]; go_simp) rfl
              · intro a v c
                have e0 : a.eval (.tmp 0) = SV l := (c.off 0 (by kernel_rfl)).trans rfl
                have f0 := (eval_opt a 0).trans e0
                exact gvalS (SV l) (by simp only [execOp, f0, e0]; go_simp) rfl
              · intro a v c
                have e111 : a.eval (.tmp 111) = SV l := c.dep 14 _ (by kernel_rfl) rfl
                have f111 := (eval_opt a 111).trans e111
                exact gvalS (.int .u8 (b18)) (by simp only [execOp, f111, e111]; go_simp) rfl
              · intro a v c
                have e0 : a.eval (.tmp 0) = SV l := (c.off 0 (by kernel_rfl)).trans rfl
                have f0 := (eval_opt a 0).trans e0
                exact gvalS (SV l) (by simp only [execOp, f0, e0]; go_simp) rfl
              · intro a v c
                have e113 : a.eval (.tmp 113) = SV l := c.dep 16 _ (by kernel_rfl) rfl
                have f113 := (eval_opt a 113).trans e113
                exact gvalS (.int .u8 (b19)) (by simp only [execOp, f113, e113]; go_simp) rfl
              · intro a v c
                have e108 : a.eval (.tmp 108) = .int .u8 (b16) := c.dep 11 _ (by kernel_rfl) rfl
                have e110 : a.eval (.tmp 110) = .int .u8 (b17) := c.dep 13 _ (by kernel_rfl) rfl
                have e112 : a.eval (.tmp 112) = .int .u8 (b18) := c.dep 15 _ (by kernel_rfl) rfl
                have e114 : a.eval (.tmp 114) = .int .u8 (b19) := c.dep 17 _ (by kernel_rfl) rfl
                have f108 := (eval_opt a 108).trans e108
                have f110 := (eval_opt a 110).trans e110
                have f112 := (eval_opt a 112).trans e112
                have f114 := (eval_opt a 114).trans e114
                exact gsliceS #[.int .u8 b16, .int .u8 b17, .int .u8 b18, .int .u8 b19] 5 rfl rfl c.low c.high (by simp only [execOp, f108, f110, f112, f114, e108, e110, e112, e114]; go_simp)
              · intro a v c
                obtain ⟨B115, e115, hB115, kB115⟩ : ∃ b, a.eval (.tmp 115) = .slice (some ⟨b, 0, none⟩) 4 4 ∧ _ ≤ b ∧ Blk v b #[.int .u8 b16, .int .u8 b17, .int .u8 b18, .int .u8 b19] 5 := c.dep 18 _ (by kernel_rfl) rfl
                have cB115 := kB115.cell; have zB115 := kB115.size; have fB115 := kB115.frozen
                have f115 := (eval_opt a 115).trans e115
                exact gcallS (.int .u32 (dst)) 63 #[.slice (some ⟨B115, 0, none⟩) 4 4] c.low (by simp only [execOp, f115, e115]; go_simp) ((ipJoin4 b16 b17 b18 b19 B115 v r16 r17 r18 r19 dst E16.out (by rw [cB115]; rfl) (by rw [cB115]; rfl) (by rw [cB115]; rfl) (by rw [cB115]; rfl)).mono (fun _ _ ⟨h, e⟩ => ⟨h, e ▸ Below.refl _ _⟩)) (fun _ => rfl)
              · intro a v c
                have e8 : a.eval (.tmp 8) = .pointer (some ⟨PX, 0, none⟩) := (c.off 8 (by kernel_rfl)).trans rfl
                have f8 := (eval_opt a 8).trans e8
                exact gvalS (.pointer (some ⟨PX, 6, none⟩)) (by simp only [execOp, f8, e8]; go_simp) rfl
              · intro a v c
                have e117 : a.eval (.tmp 117) = .pointer (some ⟨PX, 6, none⟩) := c.dep 20 _ (by kernel_rfl) rfl
                have e106 : a.eval (.tmp 106) = .int .u32 (src) := c.dep 9 _ (by kernel_rfl) rfl
                exact gpartS [6] (PX, #[.int .u8 b1, .int .u16 id, .int .u8 fl, .int .u16 off, .int .u8 b8, .int .u8 b9, .int .u32 src, .int .u32 dst, .string ⟨#[]⟩], 70) (PX) 6 (.int .u32 src) #[.int .u32 src] 68 (.tmp 117) (.tmp 106) rfl e117 e106 rfl (c.room (PX, #[.int .u8 b1, .int .u16 id, .int .u8 fl, .int .u16 off, .int .u8 b8, .int .u8 b9, .int .u32 src, .int .u32 dst, .string ⟨#[]⟩], 70) (by simp)) rfl (by simp) (by kernel_rfl) (by simp [Value.oneCell']) rfl (by intro q hq c hcq; simp only [List.mem_cons, List.not_mem_nil, or_false] at hq; rcases hq with rfl <;> (have hcq : some _ = some c := hcq; cases hcq; exact ⟨rfl, by simp, by simp⟩)) (by omega) (by omega) (by intro f m; simp only [List.mem_cons, List.not_mem_nil, or_false] at m; rcases m with rfl <;> ((show _ ≠ _) <;> (first | omega | (simp; omega)))) (fun _ h => absurd h (by simp)) (by intro c m e l1 l2; simp only [List.mem_cons, List.not_mem_nil, or_false] at m; rcases m with rfl | rfl | rfl | rfl | rfl | rfl | rfl | rfl | rfl <;> (first | rfl | (simp; done) | (exfalso; simp at l1; done) | (exfalso; simp at l2; done) | (exfalso; simp only at l1 l2; simp at l2; omega) | (exfalso; omega)))
              · intro a v c
                have e8 : a.eval (.tmp 8) = .pointer (some ⟨PX, 0, none⟩) := (c.off 8 (by kernel_rfl)).trans rfl
                have f8 := (eval_opt a 8).trans e8
                exact gvalS (.pointer (some ⟨PX, 7, none⟩)) (by simp only [execOp, f8, e8]; go_simp) rfl
              · intro a v c
                have e118 : a.eval (.tmp 118) = .pointer (some ⟨PX, 7, none⟩) := c.dep 22 _ (by kernel_rfl) rfl
                have e116 : a.eval (.tmp 116) = .int .u32 (dst) := c.dep 19 _ (by kernel_rfl) rfl
                exact gpartS [7] (PX, #[.int .u8 b1, .int .u16 id, .int .u8 fl, .int .u16 off, .int .u8 b8, .int .u8 b9, .int .u32 src, .int .u32 dst, .string ⟨#[]⟩], 70) (PX) 7 (.int .u32 dst) #[.int .u32 dst] 68 (.tmp 118) (.tmp 116) rfl e118 e116 rfl (c.room (PX, #[.int .u8 b1, .int .u16 id, .int .u8 fl, .int .u16 off, .int .u8 b8, .int .u8 b9, .int .u32 src, .int .u32 dst, .string ⟨#[]⟩], 70) (by simp)) rfl (by simp) (by kernel_rfl) (by simp [Value.oneCell']) rfl (by intro q hq c hcq; simp only [List.mem_cons, List.not_mem_nil, or_false] at hq; rcases hq with rfl <;> (have hcq : some _ = some c := hcq; cases hcq; exact ⟨rfl, by simp, by simp⟩)) (by omega) (by omega) (by intro f m; simp only [List.mem_cons, List.not_mem_nil, or_false] at m; rcases m with rfl <;> ((show _ ≠ _) <;> (first | omega | (simp; omega)))) (fun _ h => absurd h (by simp)) (by intro c m e l1 l2; simp only [List.mem_cons, List.not_mem_nil, or_false] at m; rcases m with rfl | rfl | rfl | rfl | rfl | rfl | rfl | rfl | rfl <;> (first | rfl | (simp; done) | (exfalso; simp at l1; done) | (exfalso; simp at l2; done) | (exfalso; simp only at l1 l2; simp at l2; omega) | (exfalso; omega)))
            intro a v hb hF hRm hCl hd ho hs hf
            have e97 : a.eval (.tmp 97) = SV l := hd 0 _ rfl
            have e98 : a.eval (.tmp 98) = .int .u8 (b12) := hd 1 _ rfl
            have e99 : a.eval (.tmp 99) = SV l := hd 2 _ rfl
            have e100 : a.eval (.tmp 100) = .int .u8 (b13) := hd 3 _ rfl
            have e101 : a.eval (.tmp 101) = SV l := hd 4 _ rfl
            have e102 : a.eval (.tmp 102) = .int .u8 (b14) := hd 5 _ rfl
            have e103 : a.eval (.tmp 103) = SV l := hd 6 _ rfl
            have e104 : a.eval (.tmp 104) = .int .u8 (b15) := hd 7 _ rfl
            have e106 : a.eval (.tmp 106) = .int .u32 (src) := hd 9 _ rfl
            have e107 : a.eval (.tmp 107) = SV l := hd 10 _ rfl
            have e108 : a.eval (.tmp 108) = .int .u8 (b16) := hd 11 _ rfl
            have e109 : a.eval (.tmp 109) = SV l := hd 12 _ rfl
            have e110 : a.eval (.tmp 110) = .int .u8 (b17) := hd 13 _ rfl
            have e111 : a.eval (.tmp 111) = SV l := hd 14 _ rfl
            have e112 : a.eval (.tmp 112) = .int .u8 (b18) := hd 15 _ rfl
            have e113 : a.eval (.tmp 113) = SV l := hd 16 _ rfl
            have e114 : a.eval (.tmp 114) = .int .u8 (b19) := hd 17 _ rfl
            have e116 : a.eval (.tmp 116) = .int .u32 (dst) := hd 19 _ rfl
            have e117 : a.eval (.tmp 117) = .pointer (some ⟨PX, 6, none⟩) := hd 20 _ rfl
            have e118 : a.eval (.tmp 118) = .pointer (some ⟨PX, 7, none⟩) := hd 22 _ rfl
            have RG : Blk v (w.heap.size) #[.int .u8 0, .int .u16 0, .int .u8 0, .int .u16 0, .int .u8 0, .int .u8 0, .int .u32 0, .int .u32 0, .string ⟨#[]⟩] 70 := hF (w.heap.size, #[.int .u8 0, .int .u16 0, .int .u8 0, .int .u16 0, .int .u8 0, .int .u8 0, .int .u32 0, .int .u32 0, .string ⟨#[]⟩], 70) (by simp)
            have XG : Blk v (PX) #[.int .u8 b1, .int .u16 id, .int .u8 fl, .int .u16 off, .int .u8 b8, .int .u8 b9, .int .u32 src, .int .u32 dst, .string ⟨#[]⟩] 70 := by
              have d0 : World.cell? v ⟨PX, 0, none⟩ = some (.int .u8 b1) := hCl (PX, 0, .int .u8 b1) (by simp) (by show World.cell? _ _ = _; rw [cX]; rfl)
              have d1 : World.cell? v ⟨PX, 1, none⟩ = some (.int .u16 id) := hCl (PX, 1, .int .u16 id) (by simp) (by show World.cell? _ _ = _; rw [cX]; rfl)
              have d2 : World.cell? v ⟨PX, 2, none⟩ = some (.int .u8 fl) := hCl (PX, 2, .int .u8 fl) (by simp) (by show World.cell? _ _ = _; rw [cX]; rfl)
              have d3 : World.cell? v ⟨PX, 3, none⟩ = some (.int .u16 off) := hCl (PX, 3, .int .u16 off) (by simp) (by show World.cell? _ _ = _; rw [cX]; rfl)
              have d4 : World.cell? v ⟨PX, 4, none⟩ = some (.int .u8 b8) := hCl (PX, 4, .int .u8 b8) (by simp) (by show World.cell? _ _ = _; rw [cX]; rfl)
              have d5 : World.cell? v ⟨PX, 5, none⟩ = some (.int .u8 b9) := hCl (PX, 5, .int .u8 b9) (by simp) (by show World.cell? _ _ = _; rw [cX]; rfl)
              have d6 : World.cell? v ⟨PX, 6, none⟩ = some (.int .u32 src) := hd 21 _ rfl 6 (by simp) _ rfl
              have d7 : World.cell? v ⟨PX, 7, none⟩ = some (.int .u32 dst) := hd 23 _ rfl 7 (by simp) _ rfl
              have d8 : World.cell? v ⟨PX, 8, none⟩ = some (.string ⟨#[]⟩) := hCl (PX, 8, .string ⟨#[]⟩) (by simp) (by show World.cell? _ _ = _; rw [cX]; rfl)
              exact Fct.of_cells (f := (PX, #[.int .u8 b1, .int .u16 id, .int .u8 fl, .int .u16 off, .int .u8 b8, .int .u8 b9, .int .u32 src, .int .u32 dst, .string ⟨#[]⟩], 70)) (hRm _ (by simp)) (fun j hj => by match j, hj with | 0, _ => exact d0 | 1, _ => exact d1 | 2, _ => exact d2 | 3, _ => exact d3 | 4, _ => exact d4 | 5, _ => exact d5 | 6, _ => exact d6 | 7, _ => exact d7 | 8, _ => exact d8 | j + 9, h => exact absurd h (by show ¬ j + 9 < 9; omega))
            have gG := g7.trans hb
            rw [frame_eta a 127 hs, hf]
            simp only [List.range, List.range.loop, List.map_cons, List.map_nil, e97, e98, e99, e100, e101, e102, e103, e104, e106, e107, e108, e109, e110, e111, e112, e113, e114, e116, e117, e118, ho 0 (by kernel_rfl), ho 1 (by kernel_rfl), ho 2 (by kernel_rfl), ho 3 (by kernel_rfl), ho 4 (by kernel_rfl), ho 5 (by kernel_rfl), ho 6 (by kernel_rfl), ho 7 (by kernel_rfl), ho 8 (by kernel_rfl), ho 9 (by kernel_rfl), ho 10 (by kernel_rfl), ho 11 (by kernel_rfl), ho 12 (by kernel_rfl), ho 13 (by kernel_rfl), ho 14 (by kernel_rfl), ho 15 (by kernel_rfl), ho 16 (by kernel_rfl), ho 17 (by kernel_rfl), ho 18 (by kernel_rfl), ho 19 (by kernel_rfl), ho 20 (by kernel_rfl), ho 21 (by kernel_rfl), ho 22 (by kernel_rfl), ho 23 (by kernel_rfl), ho 24 (by kernel_rfl), ho 25 (by kernel_rfl), ho 26 (by kernel_rfl), ho 27 (by kernel_rfl), ho 28 (by kernel_rfl), ho 29 (by kernel_rfl), ho 30 (by kernel_rfl), ho 31 (by kernel_rfl), ho 32 (by kernel_rfl), ho 33 (by kernel_rfl), ho 34 (by kernel_rfl), ho 35 (by kernel_rfl), ho 36 (by kernel_rfl), ho 37 (by kernel_rfl), ho 38 (by kernel_rfl), ho 39 (by kernel_rfl), ho 40 (by kernel_rfl), ho 41 (by kernel_rfl), ho 42 (by kernel_rfl), ho 43 (by kernel_rfl), ho 44 (by kernel_rfl), ho 45 (by kernel_rfl), ho 46 (by kernel_rfl), ho 47 (by kernel_rfl), ho 48 (by kernel_rfl), ho 49 (by kernel_rfl), ho 50 (by kernel_rfl), ho 51 (by kernel_rfl), ho 52 (by kernel_rfl), ho 53 (by kernel_rfl), ho 54 (by kernel_rfl), ho 55 (by kernel_rfl), ho 56 (by kernel_rfl), ho 57 (by kernel_rfl), ho 58 (by kernel_rfl), ho 59 (by kernel_rfl), ho 60 (by kernel_rfl), ho 61 (by kernel_rfl), ho 62 (by kernel_rfl), ho 63 (by kernel_rfl), ho 64 (by kernel_rfl), ho 65 (by kernel_rfl), ho 66 (by kernel_rfl), ho 67 (by kernel_rfl), ho 68 (by kernel_rfl), ho 69 (by kernel_rfl), ho 70 (by kernel_rfl), ho 71 (by kernel_rfl), ho 72 (by kernel_rfl), ho 73 (by kernel_rfl), ho 74 (by kernel_rfl), ho 75 (by kernel_rfl), ho 76 (by kernel_rfl), ho 77 (by kernel_rfl), ho 78 (by kernel_rfl), ho 79 (by kernel_rfl), ho 80 (by kernel_rfl), ho 81 (by kernel_rfl), ho 82 (by kernel_rfl), ho 83 (by kernel_rfl), ho 84 (by kernel_rfl), ho 85 (by kernel_rfl), ho 86 (by kernel_rfl), ho 87 (by kernel_rfl), ho 88 (by kernel_rfl), ho 89 (by kernel_rfl), ho 90 (by kernel_rfl), ho 91 (by kernel_rfl), ho 92 (by kernel_rfl), ho 93 (by kernel_rfl), ho 94 (by kernel_rfl), ho 95 (by kernel_rfl), ho 96 (by kernel_rfl), ho 119 (by kernel_rfl), ho 120 (by kernel_rfl), ho 121 (by kernel_rfl), ho 122 (by kernel_rfl), ho 123 (by kernel_rfl), ho 124 (by kernel_rfl), ho 125 (by kernel_rfl), ho 126 (by kernel_rfl)]
            clear hd hF hRm hCl ho hf hs hb e97 e98 e99 e100 e101 e102 e103 e104 e106 e107 e108 e109 e110 e111 e112 e113 e114 e116 e117 e118
            generalize a.eval (.tmp 105) = u105
            generalize a.eval (.tmp 115) = u115
            clear a
            replace cR := RG.cell; replace fR := RG.frozen; replace zR := RG.size
            replace cX := XG.cell; replace fX := XG.frozen; replace zX := XG.size
            go_simp
            go_wp2_with fail
            go_meet
            exact ⟨rfl, gG, RG, XG⟩
          case rest =>
            obtain ⟨rfl, g8, R8, X8⟩ := hcut
            clear cR fR zR cX fX zX
            have cR := R8.cell; have fR := R8.frozen; have zR := R8.size
            have cX := X8.cell; have fX := X8.frozen; have zX := X8.size
            have hz8 := g8.size
            have hO : (strOfNums l).extract 20 sz = strOfNums OP := by rw [strOf_sub, eO]
            have hB : List.take (l.length - sz) BD = BD := List.take_of_length_le (by rw [← eB]; simp)
            go_upto_region 17 with (fail)
            refine wp_forget (fun v => Below w.heap.size w v ∧ Blk v (w.heap.size) #[.int .u8 0, .int .u16 0, .int .u8 0, .int .u16 0, .int .u8 0, .int .u8 0, .int .u32 0, .int .u32 0, .string ⟨#[]⟩] 70 ∧ Blk v (PX) #[.int .u8 b1, .int .u16 id, .int .u8 fl, .int .u16 off, .int .u8 b8, .int .u8 b9, .int .u32 src, .int .u32 dst, SV OP] 70) ⟨by (repeat' (first | (with_reducible (first | exact Below.refl _ _ | assumption | refine below_drewN ?_ _ | refine Below.drew ?_ | refine Below.alloc ?_ ?_ _ | refine Below.setCell ?_ ?_ _)) | go_size)), by (repeat' (first | (with_reducible (first | assumption | exact Blk.alloc_new _ _ _ (by first | rfl | (simp; done) | omega) | apply Blk.drewN | apply Blk.drew | apply Blk.alloc_old | apply Blk.set_same | apply Blk.set_other)) | (show (_ : Nat) ≠ _; first | omega | (simp; done) | (simp; omega)) | ((simp only [List.setIfInBounds_toArray, List.set_cons_succ, List.set_cons_zero]); (with_reducible exact rfl)) | (with_reducible exact rfl) | (show (_ : Array Value) = _; exact rfl))), by (repeat' (first | (with_reducible (first | assumption | exact Blk.alloc_new _ _ _ (by first | rfl | (simp; done) | omega) | apply Blk.drewN | apply Blk.drew | apply Blk.alloc_old | apply Blk.set_same | apply Blk.set_other)) | (show (_ : Nat) ≠ _; first | omega | (simp; done) | (simp; omega)) | ((simp only [List.setIfInBounds_toArray, List.set_cons_succ, List.set_cons_zero]); (with_reducible exact rfl)) | (with_reducible exact rfl) | (show (_ : Array Value) = _; exact rfl)))⟩ ?_
            rintro w9 ⟨g9, R9, X9⟩
            have hz9 := g9.size
            replace cR := R9.cell
            replace fR := R9.frozen
            replace zR := R9.size
            replace cX := X9.cell
            replace fX := X9.frozen
            replace zX := X9.size
            go_cut [3, 4] (fun s3 s4 wx => s3 = SV BD ∧ s4 = .int .i64 0 ∧ Below w.heap.size w wx ∧ Blk wx (w.heap.size) #[.int .u8 b1, .int .u16 id, .int .u8 fl, .int .u16 off, .int .u8 b8, .int .u8 b9, .int .u32 src, .int .u32 dst, SV OP] 70)
            case first =>
              refine wp_region_guarS (w.heap.size) (w.heap.size + 1) [(PX, #[.int .u8 b1, .int .u16 id, .int .u8 fl, .int .u16 off, .int .u8 b8, .int .u8 b9, .int .u32 src, .int .u32 dst, SV OP], 70)] [(w.heap.size, #[.int .u8 b1, .int .u16 id, .int .u8 fl, .int .u16 off, .int .u8 b8, .int .u8 b9, .int .u32 src, .int .u32 dst, SV OP], 70)] [] [] [.val (.agg #[.int .u8 b1, .int .u16 id, .int .u8 fl, .int .u16 off, .int .u8 b8, .int .u8 b9, .int .u32 src, .int .u32 dst, SV OP]), .val (SV l), .val (.int .i64 sz), .val (SV BD), .full (0), .val (SV BD), .val (.int .i64 0)] (by kernel_rfl) (by kernel_rfl) (by omega) (by omega) (by intro f m; simp only [List.mem_cons, List.not_mem_nil, or_false, List.append_nil, List.nil_append, List.cons_append] at m; rcases m with rfl <;> ((show Blk _ _ _ _) <;> (repeat' (first | (with_reducible (first | assumption | exact Blk.alloc_new _ _ _ (by first | rfl | (simp; done) | omega) | apply Blk.drewN | apply Blk.drew | apply Blk.alloc_old | apply Blk.set_same | apply Blk.set_other)) | (show (_ : Nat) ≠ _; first | omega | (simp; done) | (simp; omega)) | ((simp only [List.setIfInBounds_toArray, List.set_cons_succ, List.set_cons_zero]); (with_reducible exact rfl)) | (with_reducible exact rfl) | (show (_ : Array Value) = _; exact rfl))))) (by intro f m; simp only [List.mem_cons, List.not_mem_nil, or_false, List.append_nil, List.nil_append, List.cons_append] at m; rcases m with rfl <;> (first | (exact ⟨#[.int .u8 0, .int .u16 0, .int .u8 0, .int .u16 0, .int .u8 0, .int .u8 0, .int .u32 0, .int .u32 0, .string ⟨#[]⟩], rfl, by (repeat' (first | (with_reducible (first | assumption | exact Blk.alloc_new _ _ _ (by first | rfl | (simp; done) | omega) | apply Blk.drewN | apply Blk.drew | apply Blk.alloc_old | apply Blk.set_same | apply Blk.set_other)) | (show (_ : Nat) ≠ _; first | omega | (simp; done) | (simp; omega)) | ((simp only [List.setIfInBounds_toArray, List.set_cons_succ, List.set_cons_zero]); (with_reducible exact rfl)) | (with_reducible exact rfl) | (show (_ : Array Value) = _; exact rfl)))⟩))) ?_ ?_
              · refine ⟨?_, ?_, ?_, ?_, ?_, ?_, ?_, trivial⟩
                · intro a v c
                  have e8 : a.eval (.tmp 8) = .pointer (some ⟨PX, 0, none⟩) := (c.off 8 (by kernel_rfl)).trans rfl
                  exact gloadS 70 (.tmp 8) (PX) #[.int .u8 b1, .int .u16 id, .int .u8 fl, .int .u16 off, .int .u8 b8, .int .u8 b9, .int .u32 src, .int .u32 dst, SV OP] 70 _ rfl e8 (c.fact (PX, #[.int .u8 b1, .int .u16 id, .int .u8 fl, .int .u16 off, .int .u8 b8, .int .u8 b9, .int .u32 src, .int .u32 dst, SV OP], 70) (by simp)) Try.underlying70 rfl (by kernel_rfl) rfl
                · intro a v c
                  have e0 : a.eval (.tmp 0) = SV l := (c.off 0 (by kernel_rfl)).trans rfl
                  have f0 := (eval_opt a 0).trans e0
                  exact gvalS (SV l) (by simp only [execOp, f0, e0]; go_simp) rfl
                · intro a v c
                  have e5 : a.eval (.tmp 5) = .int .i64 sz := (c.off 5 (by kernel_rfl)).trans rfl
                  have f5 := (eval_opt a 5).trans e5
                  exact gvalS (.int .i64 sz) (by simp only [execOp, f5, e5]; go_simp) rfl
                · intro a v c
                  have e124 : a.eval (.tmp 124) = SV l := c.dep 1 _ (by kernel_rfl) rfl
                  have e125 : a.eval (.tmp 125) = .int .i64 sz := c.dep 2 _ (by kernel_rfl) rfl
                  have f124 := (eval_opt a 124).trans e124
                  have f125 := (eval_opt a 125).trans e125
                  exact gvalS (SV BD) (by simp only [execOp, f124, f125, e124, e125]; go_simp) rfl
                · intro a v c
                  have e2 : a.eval (.tmp 2) = .pointer (some ⟨w.heap.size, 0, none⟩) := (c.off 2 (by kernel_rfl)).trans rfl
                  have e123 : a.eval (.tmp 123) = .agg #[.int .u8 b1, .int .u16 id, .int .u8 fl, .int .u16 off, .int .u8 b8, .int .u8 b9, .int .u32 src, .int .u32 dst, SV OP] := c.dep 0 _ (by kernel_rfl) rfl
                  exact gstoreS 0 (w.heap.size, #[.int .u8 b1, .int .u16 id, .int .u8 fl, .int .u16 off, .int .u8 b8, .int .u8 b9, .int .u32 src, .int .u32 dst, SV OP], 70) 70 (.tmp 2) (.tmp 123) rfl e2 e123 (c.room _ (by simp)) (by kernel_rfl) (by simp [Value.oneCell']) rfl rfl (by omega) (by omega) (by intro f m; simp only [List.mem_cons, List.not_mem_nil, or_false] at m; rcases m with rfl <;> ((show _ ≠ _) <;> (first | omega | (simp; omega)))) (by intro f m e; simp only [List.mem_cons, List.not_mem_nil, or_false] at m; rcases m with rfl <;> (first | rfl | (exfalso; simp at e; omega))) (fun _ h => absurd h (by simp))
                · intro a v c
                  have e126 : a.eval (.tmp 126) = SV BD := c.dep 3 _ (by kernel_rfl) rfl
                  have f126 := (eval_opt a 126).trans e126
                  exact gvalS (SV BD) (by simp only [execOp, f126, e126]; go_simp) rfl
                · intro a v c
                  exact gvalS (.int .i64 0) (by simp only [execOp]; go_simp) rfl
              intro a v hb hF hRm hCl hd ho hs hf
              have e123 : a.eval (.tmp 123) = .agg #[.int .u8 b1, .int .u16 id, .int .u8 fl, .int .u16 off, .int .u8 b8, .int .u8 b9, .int .u32 src, .int .u32 dst, SV OP] := hd 0 _ rfl
              have e124 : a.eval (.tmp 124) = SV l := hd 1 _ rfl
              have e125 : a.eval (.tmp 125) = .int .i64 sz := hd 2 _ rfl
              have e126 : a.eval (.tmp 126) = SV BD := hd 3 _ rfl
              have e3 : a.eval (.tmp 3) = SV BD := hd 5 _ rfl
              have e4 : a.eval (.tmp 4) = .int .i64 0 := hd 6 _ rfl
              have XG : Blk v (PX) #[.int .u8 b1, .int .u16 id, .int .u8 fl, .int .u16 off, .int .u8 b8, .int .u8 b9, .int .u32 src, .int .u32 dst, SV OP] 70 := hF (PX, #[.int .u8 b1, .int .u16 id, .int .u8 fl, .int .u16 off, .int .u8 b8, .int .u8 b9, .int .u32 src, .int .u32 dst, SV OP], 70) (by simp)
              have RG : Blk v (w.heap.size) #[.int .u8 b1, .int .u16 id, .int .u8 fl, .int .u16 off, .int .u8 b8, .int .u8 b9, .int .u32 src, .int .u32 dst, SV OP] 70 := hd 4 _ rfl _ rfl
              have gG := g9.trans hb
              rw [frame_eta a 127 hs, hf]
              simp only [List.range, List.range.loop, List.map_cons, List.map_nil, e123, e124, e125, e126, e3, e4, ho 0 (by kernel_rfl), ho 1 (by kernel_rfl), ho 2 (by kernel_rfl), ho 5 (by kernel_rfl), ho 6 (by kernel_rfl), ho 7 (by kernel_rfl), ho 8 (by kernel_rfl), ho 9 (by kernel_rfl), ho 10 (by kernel_rfl), ho 11 (by kernel_rfl), ho 12 (by kernel_rfl), ho 13 (by kernel_rfl), ho 14 (by kernel_rfl), ho 15 (by kernel_rfl), ho 16 (by kernel_rfl), ho 17 (by kernel_rfl), ho 18 (by kernel_rfl), ho 19 (by kernel_rfl), ho 20 (by kernel_rfl), ho 21 (by kernel_rfl), ho 22 (by kernel_rfl), ho 23 (by kernel_rfl), ho 24 (by kernel_rfl), ho 25 (by kernel_rfl), ho 26 (by kernel_rfl), ho 27 (by kernel_rfl), ho 28 (by kernel_rfl), ho 29 (by kernel_rfl), ho 30 (by kernel_rfl), ho 31 (by kernel_rfl), ho 32 (by kernel_rfl), ho 33 (by kernel_rfl), ho 34 (by kernel_rfl), ho 35 (by kernel_rfl), ho 36 (by kernel_rfl), ho 37 (by kernel_rfl), ho 38 (by kernel_rfl), ho 39 (by kernel_rfl), ho 40 (by kernel_rfl), ho 41 (by kernel_rfl), ho 42 (by kernel_rfl), ho 43 (by kernel_rfl), ho 44 (by kernel_rfl), ho 45 (by kernel_rfl), ho 46 (by kernel_rfl), ho 47 (by kernel_rfl), ho 48 (by kernel_rfl), ho 49 (by kernel_rfl), ho 50 (by kernel_rfl), ho 51 (by kernel_rfl), ho 52 (by kernel_rfl), ho 53 (by kernel_rfl), ho 54 (by kernel_rfl), ho 55 (by kernel_rfl), ho 56 (by kernel_rfl), ho 57 (by kernel_rfl), ho 58 (by kernel_rfl), ho 59 (by kernel_rfl), ho 60 (by kernel_rfl), ho 61 (by kernel_rfl), ho 62 (by kernel_rfl), ho 63 (by kernel_rfl), ho 64 (by kernel_rfl), ho 65 (by kernel_rfl), ho 66 (by kernel_rfl), ho 67 (by kernel_rfl), ho 68 (by kernel_rfl), ho 69 (by kernel_rfl), ho 70 (by kernel_rfl), ho 71 (by kernel_rfl), ho 72 (by kernel_rfl), ho 73 (by kernel_rfl), ho 74 (by kernel_rfl), ho 75 (by kernel_rfl), ho 76 (by kernel_rfl), ho 77 (by kernel_rfl), ho 78 (by kernel_rfl), ho 79 (by kernel_rfl), ho 80 (by kernel_rfl), ho 81 (by kernel_rfl), ho 82 (by kernel_rfl), ho 83 (by kernel_rfl), ho 84 (by kernel_rfl), ho 85 (by kernel_rfl), ho 86 (by kernel_rfl), ho 87 (by kernel_rfl), ho 88 (by kernel_rfl), ho 89 (by kernel_rfl), ho 90 (by kernel_rfl), ho 91 (by kernel_rfl), ho 92 (by kernel_rfl), ho 93 (by kernel_rfl), ho 94 (by kernel_rfl), ho 95 (by kernel_rfl), ho 96 (by kernel_rfl), ho 97 (by kernel_rfl), ho 98 (by kernel_rfl), ho 99 (by kernel_rfl), ho 100 (by kernel_rfl), ho 101 (by kernel_rfl), ho 102 (by kernel_rfl), ho 103 (by kernel_rfl), ho 104 (by kernel_rfl), ho 105 (by kernel_rfl), ho 106 (by kernel_rfl), ho 107 (by kernel_rfl), ho 108 (by kernel_rfl), ho 109 (by kernel_rfl), ho 110 (by kernel_rfl), ho 111 (by kernel_rfl), ho 112 (by kernel_rfl), ho 113 (by kernel_rfl), ho 114 (by kernel_rfl), ho 115 (by kernel_rfl), ho 116 (by kernel_rfl), ho 117 (by kernel_rfl), ho 118 (by kernel_rfl), ho 119 (by kernel_rfl), ho 120 (by kernel_rfl), ho 121 (by kernel_rfl), ho 122 (by kernel_rfl)]
              clear hd hF hRm hCl ho hf hs hb e123 e124 e125 e126 e3 e4
              clear a
              replace cX := XG.cell; replace fX := XG.frozen; replace zX := XG.size
              replace cR := RG.cell; replace fR := RG.frozen; replace zR := RG.size
              go_simp
              go_wp2_with fail
              go_meet
              exact ⟨rfl, rfl, gG, RG⟩
            case rest =>
              obtain ⟨rfl, rfl, g10, R10⟩ := hcut
              clear cR fR zR cX fX zX
              apply_assumption
              refine wp_ret ?_
              skip
              refine bp_forget (fun v => Below w.heap.size w v ∧ Blk v (w.heap.size) #[.int .u8 b1, .int .u16 id, .int .u8 fl, .int .u16 off, .int .u8 b8, .int .u8 b9, .int .u32 src, .int .u32 dst, SV OP] 70) ⟨by (repeat' (first | (with_reducible (first | exact Below.refl _ _ | assumption | refine below_drewN ?_ _ | refine Below.drew ?_ | refine Below.alloc ?_ ?_ _ | refine Below.setCell ?_ ?_ _)) | go_size)), by (repeat' (first | (with_reducible (first | assumption | exact Blk.alloc_new _ _ _ (by first | rfl | (simp; done) | omega) | apply Blk.drewN | apply Blk.drew | apply Blk.alloc_old | apply Blk.set_same | apply Blk.set_other)) | (show (_ : Nat) ≠ _; first | omega | (simp; done) | (simp; omega)) | ((simp only [List.setIfInBounds_toArray, List.set_cons_succ, List.set_cons_zero]); (with_reducible exact rfl)) | (with_reducible exact rfl) | (show (_ : Array Value) = _; exact rfl)))⟩ ?_
              rintro v ⟨gv, Bv⟩
              refine bodyPost_ret (v := .tuple #[.agg #[.int .u8 b1, .int .u16 id, .int .u8 fl, .int .u16 off, .int .u8 b8, .int .u8 b9, .int .u32 src, .int .u32 dst, SV OP], SV BD, .int .i64 0]) ?_ ?_ ?_
              · exact results_dec (w.heap.size) #[.int .u8 b1, .int .u16 id, .int .u8 fl, .int .u16 off, .int .u8 b8, .int .u8 b9, .int .u32 src, .int .u32 dst, SV OP] 70 _ _ _ _ _ Try.results47 (by rfl) (by rfl) (by rfl) Bv Try.underlying70 rfl (by kernel_rfl)
              · rfl
              · exact ⟨rfl, gv⟩
end Go.Proofs.Ytljpiofpfankoaa
