/-
  The walk of ipv4.Decode: the sum is wrong. Conditions: fields in range.
-/
import Derived.Test.YtljpiofpfankoaaIpG
import Derived.Deep.RegionHeld3
namespace Go.Proofs.Ytljpiofpfankoaa
open Go.RowKit Go.Sort
set_option linter.unusedVariables false
set_option linter.unusedSimpArgs false
set_option maxRecDepth 100000 in
set_option maxHeartbeats 4000000 in
theorem ipDec_7 (l CK : List Int) (n sz : Nat) (al ck sm cs : Int) (w : World) (hl : Byt l) (hb : l.length ≤ 70000) (h20 : 20 ≤ l.length) (hsz : l.getD 0 0 % 16 * 4 = (sz : Int)) (hal : l.getD 2 0 * 256 + l.getD 3 0 = al) (h1 : l.getD 0 0 / 16 = 4) (h2 : 20 ≤ sz) (h3 : (sz : Int) ≤ al) (h4 : (l.length : Int) = al) (hCK : l.take 10 ++ (l.drop 12).take (sz - 12) = CK) (hsm : sumS CK = sm) (hcs : 65535 - sm = cs) (hck : l.getD 10 0 * 256 + l.getD 11 0 = ck) (hne : ck ≠ cs) :
    Calls Try.prog 47 #[SV l] w fun e w' => e = .returned (.tuple #[.agg #[.int .u8 0, .int .u16 0, .int .u8 0, .int .u16 0, .int .u8 0, .int .u8 0, .int .u32 0, .int .u32 0, .string ⟨#[]⟩], .string ⟨#[]⟩, .int .i64 7]) ∧ Below w.heap.size w w' := by
  have ks := sv_size
  have ka := strOf_app
  have kx := strOf_sub
  have d1 : decide ((l.length : Int) < 20) = false := decide_eq_false (by omega)
  obtain ⟨b0, hb0⟩ : ∃ x, l.getD 0 0 = x := ⟨_, rfl⟩
  have r0 := hl.get 0
  rw [hb0] at r0
  have x0 : ∀ v, (Instr.index 9 (SV l) (.int .i64 0)).run Try.prog v = .ok (.int .u8 b0) v := fun v => sv_idx hl 0 b0 (by omega) hb0 v
  obtain ⟨b2, hb2⟩ : ∃ x, l.getD 2 0 = x := ⟨_, rfl⟩
  have r2 := hl.get 2
  rw [hb2] at r2
  have x2 : ∀ v, (Instr.index 9 (SV l) (.int .i64 2)).run Try.prog v = .ok (.int .u8 b2) v := fun v => sv_idx hl 2 b2 (by omega) hb2 v
  obtain ⟨b3, hb3⟩ : ∃ x, l.getD 3 0 = x := ⟨_, rfl⟩
  have r3 := hl.get 3
  rw [hb3] at r3
  have x3 : ∀ v, (Instr.index 9 (SV l) (.int .i64 3)).run Try.prog v = .ok (.int .u8 b3) v := fun v => sv_idx hl 3 b3 (by omega) hb3 v
  obtain ⟨b10, hb10⟩ : ∃ x, l.getD 10 0 = x := ⟨_, rfl⟩
  have r10 := hl.get 10
  rw [hb10] at r10
  have x10 : ∀ v, (Instr.index 9 (SV l) (.int .i64 10)).run Try.prog v = .ok (.int .u8 b10) v := fun v => sv_idx hl 10 b10 (by omega) hb10 v
  obtain ⟨b11, hb11⟩ : ∃ x, l.getD 11 0 = x := ⟨_, rfl⟩
  have r11 := hl.get 11
  rw [hb11] at r11
  have x11 : ∀ v, (Instr.index 9 (SV l) (.int .i64 11)).run Try.prog v = .ok (.int .u8 b11) v := fun v => sv_idx hl 11 b11 (by omega) hb11 v
  rw [hb0] at hsz h1; rw [hb2, hb3] at hal; rw [hb10, hb11] at hck
  have hszr : 20 ≤ (sz : Int) ∧ (sz : Int) ≤ 60 := by omega
  have halr : 0 ≤ al ∧ al ≤ 65535 := by omega
  have hckr : 0 ≤ ck ∧ ck ≤ 65535 := by omega
  have hwal : IntKind.i64.wrap al = al := IntWalk.i64_in _ ⟨by omega, by omega⟩
  have d2 : (b0 / 16 * 16 != 64) = false := by simp; omega
  have d3 : decide ((sz : Int) < 20) = false := decide_eq_false (by omega)
  have d4 : decide (al < (sz : Int)) = false := decide_eq_false (by omega)
  have d5 : decide ((l.length : Int) < al) = false := decide_eq_false (by omega)
  have d6 : decide (al < (l.length : Int)) = false := decide_eq_false (by omega)
  have bCK : Byt CK := by
    rw [← hCK]; intro x hx
    rcases List.mem_append.1 hx with hx | hx
    · exact hl x (List.mem_of_mem_take hx)
    · exact hl x (List.mem_of_mem_drop (List.mem_of_mem_take hx))
  have lCK : CK.length ≤ 70000 := by rw [← hCK]; simp; omega
  have hsr : 0 ≤ sm ∧ sm ≤ 65535 := by rw [← hsm]; exact csum_rng (wk_rng bCK _).1
  have hcsr : 0 ≤ cs ∧ cs ≤ 65535 := by omega
  have HS := hide hsm; have HB := hide bCK; have HC := hide hck
  clear hb0 hb2 hb3 hb10 hb11 hsm bCK hck hcsr
  have hcsr : 0 ≤ cs ∧ cs ≤ 65535 := by omega
  have hu1 : IntKind.u16.wrap cs = cs := by simp [IntKind.wrap, IntKind.bits, IntKind.signed]; omega
  have hu2 : IntKind.u32.wrap cs = cs := by rw [IntKind.wrap_u32]; omega
  have hs1 : (sz : Int).toNat = sz := Int.toNat_natCast sz
  have hl12 : (12 : Int) ≤ (sz : Int) := by omega
  have hlsz : (sz : Int) ≤ (l.length : Int) := by omega
  have hl10 : (10 : Int) ≤ (l.length : Int) := by omega
  have hn10 : 10 ≤ l.length := by omega
  have hnsz : sz ≤ l.length := by omega
  have hn12 : 12 ≤ sz := by omega
  have hmin1 : min 10 l.length = 10 := by omega
  have hmin2 : min (sz - 12) (l.length - 12) = sz - 12 := by omega
  have hadd1 : 10 + (sz - 12) ≤ 9223372036854775807 := by omega
  have hadd2 : (10 : Int) + ((sz - 12 : Nat) : Int) ≤ 9223372036854775807 := by omega
  have hadd3 : ∀ v, (Op.stringOp .add (strOfNums (l.take 10)) (strOfNums ((l.drop 12).take (sz - 12)))).run Try.prog v = .ok (SV CK) v := fun v => by
    refine (run_string_add_sum v _ _ (by rw [sv_size, sv_size, List.length_take, List.length_take, List.length_drop]; omega)).trans ?_
    rw [strOf_app, hCK]
  have hadd4 : ∀ v, (binOp .add 9 (SV (l.take 10)) (SV ((l.drop 12).take (sz - 12)))).run Try.prog v = .ok (SV CK) v := fun v => by
    show Sem.run Try.prog (binOp .add 9 (.string _) (.string _)) v = _
    rw [binOp_string_add]; exact hadd3 v
  clear h4
  have d7 : (ck != cs) = true := bne_iff_ne.2 hne
  go_enter Try.func47, Try.ntmps47
  go_upto_region 4 with (fail)
  go_cut [6] (fun s6 wx => s6 = .int .i64 al ∧ Below w.heap.size w wx ∧ Blk wx (w.heap.size) #[.int .u8 0, .int .u16 0, .int .u8 0, .int .u16 0, .int .u8 0, .int .u8 0, .int .u32 0, .int .u32 0, .string ⟨#[]⟩] 70)
  case first =>
    go_region_with (first
      | (go_at_call 63; (with_reducible refine (ipJoin2 b2 b3 _ _ r2 r3 al hal (by simp) (by simp)).mono ?_); rintro e w' ⟨rfl, rfl⟩))
    all_goals
      go_wp2_with fail
      go_meet
      exact ⟨rfl, by (repeat' (first | (with_reducible (first | exact Below.refl _ _ | assumption | refine below_drewN ?_ _ | refine Below.drew ?_ | refine Below.alloc ?_ ?_ _ | refine Below.setCell ?_ ?_ _)) | go_size)), by (repeat' (first | (with_reducible (first | assumption | exact Blk.alloc_new _ _ _ (by first | rfl | (simp; done) | omega) | apply Blk.drewN | apply Blk.drew | apply Blk.alloc_old | apply Blk.set_same | apply Blk.set_other)) | (show (_ : Nat) ≠ _; first | omega | (simp; done) | (simp; omega)) | ((simp only [List.setIfInBounds_toArray, List.set_cons_succ, List.set_cons_zero]); (with_reducible exact rfl)) | (with_reducible exact rfl) | (show (_ : Array Value) = _; exact rfl)))⟩
  case rest =>
    obtain ⟨rfl, g3, R3⟩ := hcut
    have cR := R3.cell; have fR := R3.frozen; have zR := R3.size
    have hz3 := g3.size
    go_upto_region 11 with (fail)
    go_cut [53] (fun s53 wx => s53 = .bool true ∧ Below w.heap.size w wx ∧ Blk wx (w.heap.size) #[.int .u8 0, .int .u16 0, .int .u8 0, .int .u16 0, .int .u8 0, .int .u8 0, .int .u32 0, .int .u32 0, .string ⟨#[]⟩] 70)
    case first =>
      go_region_held3 (fun v => Below w.heap.size w v ∧ Blk v (w.heap.size) #[.int .u8 0, .int .u16 0, .int .u8 0, .int .u16 0, .int .u8 0, .int .u8 0, .int .u32 0, .int .u32 0, .string ⟨#[]⟩] 70)
        (first
          | (refine ⟨?_, ?_⟩ <;> first | (with_reducible assumption) | ((repeat' (first | (with_reducible (first | exact Below.refl _ _ | assumption | refine below_drewN ?_ _ | refine Below.drew ?_ | refine Below.alloc ?_ ?_ _ | refine Below.setCell ?_ ?_ _)) | go_size)); done) | ((repeat' (first | (with_reducible (first | assumption | exact Blk.alloc_new _ _ _ (by first | rfl | (simp; done) | omega) | apply Blk.drewN | apply Blk.drew | apply Blk.alloc_old | apply Blk.set_same | apply Blk.set_other)) | (show (_ : Nat) ≠ _; first | omega | (simp; done) | (simp; omega)) | ((simp only [List.setIfInBounds_toArray, List.set_cons_succ, List.set_cons_zero]); (with_reducible exact rfl)) | (with_reducible exact rfl) | (show (_ : Array Value) = _; exact rfl))); done)))
        (first
        | (go_at_call 63; (with_reducible refine (ipJoin2 b10 b11 _ _ r10 r11 ck HC.out (by simp) (by simp)).mono ?_); rintro e w' ⟨rfl, rfl⟩)
        | (go_at_call 57; (with_reducible refine (ipSum CK _ HB.out (by omega) sm HS.out).mono ?_); rintro e w' ⟨rfl, rfl⟩))
      all_goals
        go_wp2_with fail
        go_meet
        exact ⟨rfl, by (repeat' (first | (with_reducible (first | exact Below.refl _ _ | assumption | refine below_drewN ?_ _ | refine Below.drew ?_ | refine Below.alloc ?_ ?_ _ | refine Below.setCell ?_ ?_ _)) | go_size)), by (repeat' (first | (with_reducible (first | assumption | exact Blk.alloc_new _ _ _ (by first | rfl | (simp; done) | omega) | apply Blk.drewN | apply Blk.drew | apply Blk.alloc_old | apply Blk.set_same | apply Blk.set_other)) | (show (_ : Nat) ≠ _; first | omega | (simp; done) | (simp; omega)) | ((simp only [List.setIfInBounds_toArray, List.set_cons_succ, List.set_cons_zero]); (with_reducible exact rfl)) | (with_reducible exact rfl) | (show (_ : Array Value) = _; exact rfl)))⟩
    case rest =>
      obtain ⟨rfl, g5, R5⟩ := hcut
      clear cR fR zR
      have cR := R5.cell; have fR := R5.frozen; have zR := R5.size
      have hz5 := g5.size
      go_wp2
      refine bp_forget (fun v => Below w.heap.size w v ∧ Blk v (w.heap.size) #[.int .u8 0, .int .u16 0, .int .u8 0, .int .u16 0, .int .u8 0, .int .u8 0, .int .u32 0, .int .u32 0, .string ⟨#[]⟩] 70) ⟨by (repeat' (first | (with_reducible (first | exact Below.refl _ _ | assumption | refine below_drewN ?_ _ | refine Below.drew ?_ | refine Below.alloc ?_ ?_ _ | refine Below.setCell ?_ ?_ _)) | go_size)), by (repeat' (first | (with_reducible (first | assumption | exact Blk.alloc_new _ _ _ (by first | rfl | (simp; done) | omega) | apply Blk.drewN | apply Blk.drew | apply Blk.alloc_old | apply Blk.set_same | apply Blk.set_other)) | (show (_ : Nat) ≠ _; first | omega | (simp; done) | (simp; omega)) | ((simp only [List.setIfInBounds_toArray, List.set_cons_succ, List.set_cons_zero]); (with_reducible exact rfl)) | (with_reducible exact rfl) | (show (_ : Array Value) = _; exact rfl)))⟩ ?_
      rintro v ⟨gv, Bv⟩
      refine bodyPost_ret (v := .tuple #[.agg #[.int .u8 0, .int .u16 0, .int .u8 0, .int .u16 0, .int .u8 0, .int .u8 0, .int .u32 0, .int .u32 0, .string ⟨#[]⟩], .string ⟨#[]⟩, .int .i64 7]) ?_ ?_ ?_
      · exact results_dec (w.heap.size) #[.int .u8 0, .int .u16 0, .int .u8 0, .int .u16 0, .int .u8 0, .int .u8 0, .int .u32 0, .int .u32 0, .string ⟨#[]⟩] 70 _ _ _ _ _ Try.results47 (by rfl) (by rfl) (by rfl) Bv Try.underlying70 rfl (by kernel_rfl)
      · rfl
      · exact ⟨rfl, gv⟩
end Go.Proofs.Ytljpiofpfankoaa
