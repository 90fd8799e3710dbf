/-
  The walks of package meter. Conditions: numbers in range.
-/
import Derived.Test.YtldahcfggeebgaaMeterM
import Derived.Test.YtldahcfggeebgaaNum
import Derived.Test.YtldahcfggeebgaaProg
import Derived.WalkKit
import Derived.Deep.QuietTactic
import Derived.BigQuiet
import Derived.ScopeJumps
import Derived.WalkMore
namespace Go.Proofs.Ytldahcfggeebgaa
open Go.RowKit
set_option linter.unusedVariables false
set_option linter.unusedSimpArgs false
/-- All blocks but one are as they were. -/
def KeptBut (L : Nat) (w w' : World) : Prop := Below L w w' ∧ ∀ B, B < w.heap.size → B ≠ L → w'.heap[B]? = w.heap[B]?
theorem KeptBut.of_below {L : Nat} {w w' : World} (h : Below w.heap.size w w') (hL : L ≤ w.heap.size) : KeptBut L w w' := ⟨h.mono hL, fun B hB _ => h.block B hB⟩
theorem KeptBut.trans {L : Nat} {a b c : World} (h : KeptBut L a b) (k : KeptBut L b c) : KeptBut L a c :=
  ⟨h.1.trans k.1, fun B hB hne => (k.2 B (Nat.lt_of_lt_of_le hB h.1.size) hne).trans (h.2 B hB hne)⟩
theorem KeptBut.setCell {L : Nat} {a w : World} (h : KeptBut L a w) (i : Nat) (v : Value) : KeptBut L a (w.setCell ⟨L, i, none⟩ v) :=
  ⟨h.1.setCell (Nat.le_refl _) _, fun B hB hne => by rw [Below.heap_setCell _ _ _ _ hne]; exact h.2 B hB hne⟩
theorem KeptBut.drew {L : Nat} {a w : World} (h : KeptBut L a w) : KeptBut L a w.drew := ⟨h.1.drew, h.2⟩
theorem KeptBut.drewN {L : Nat} {a w : World} (h : KeptBut L a w) (n : Nat) : KeptBut L a (w.drewN n) := ⟨below_drewN h.1 n, h.2⟩
theorem Blk.kept {w w' : World} {L B : Nat} {cs : Array Value} {t : TypeId} (h : Blk w B cs t) (hk : KeptBut L w w') (hne : B ≠ L) : Blk w' B cs t := by
  have hs := h.size
  unfold Blk at *; rw [hk.2 B hs hne]; exact h

theorem meNew (wd s : Int) (w : World) (h1 : 1 ≤ wd ∧ wd ≤ 4294967296) (h2 : 0 ≤ s ∧ s ≤ 8) :
    Calls Try.prog 13 #[.int .u64 wd, .int .i64 s] w fun e w' => e = .returned (.tuple #[.pointer (some ⟨w.heap.size, 0, none⟩), .int .i64 0]) ∧ Below w.heap.size w w' ∧ Blk w' w.heap.size #[.int .u64 (wd), .int .u64 (s), .int .u64 (0), .int .u64 (0), .int .u64 (0)] 77 := by
  have d1 : decide (wd < 1) = false := decide_eq_false (by omega)
  have d2 : decide (4294967296 < wd) = false := decide_eq_false (by omega)
  have d3 : decide (s < 0) = false := decide_eq_false (by omega)
  have d4 : decide (8 < s) = false := decide_eq_false (by omega)
  have hw : IntKind.u64.wrap s = s := IntWalk.u64_in _ ⟨by omega, by omega⟩
  go_enter Try.func13, Try.ntmps13
  go_wp2
  go_returns
  exact ⟨rfl, by (repeat' (first | (with_reducible (first | exact Below.refl _ _ | assumption | refine below_drewN ?_ _ | refine Below.drew ?_ | refine Below.alloc ?_ ?_ _ | refine Below.setCell ?_ ?_ _)) | go_size)), by (repeat' (first | (with_reducible (first | assumption | exact Blk.alloc_new _ _ _ (by first | rfl | (simp; done) | omega) | apply Blk.drewN | apply Blk.drew | apply Blk.alloc_old | apply Blk.set_same | apply Blk.set_other)) | (show (_ : Nat) ≠ _; first | omega | (simp; done) | (simp; omega)) | ((simp only [List.setIfInBounds_toArray, List.set_cons_succ, List.set_cons_zero]); (with_reducible exact rfl)) | (with_reducible exact rfl) | (show (_ : Array Value) = _; exact rfl)))⟩
theorem meNew_bad (wd s : Int) (w : World) (h : ¬ (1 ≤ wd ∧ wd ≤ 4294967296 ∧ 0 ≤ s ∧ s ≤ 8)) :
    Calls Try.prog 13 #[.int .u64 wd, .int .i64 s] w fun e w' => e = .returned (.tuple #[.pointer none, .int .i64 1]) ∧ w = w' := by
  go_enter Try.func13, Try.ntmps13
  go_wp2
  all_goals first
    | (exfalso; omega)
    | (go_returns; exact ⟨rfl, rfl⟩)
section
variable (L : Nat) (wd s a n o : Int) (w : World) (hL : Blk w L #[.int .u64 (wd), .int .u64 (s), .int .u64 (a), .int .u64 (n), .int .u64 (o)] 77)
include hL
theorem meStep (b r : Int) (hs : 0 ≤ s ∧ s ≤ 8) (ha : 0 ≤ a ∧ a ≤ 72057594037927936) (hb : 0 ≤ b ∧ b ≤ 1099511627776) (hr : mst s a b = r) :
    Calls Try.prog 45 #[.pointer (some ⟨L, 0, none⟩), .int .u64 b] w fun e w' => e = .returned (.int .u64 r) ∧ Below w.heap.size w w' := by
  have cL := hL.cell; have zL := hL.size
  have e1 : min s.toNat 64 = s.toNat := by omega
  have q1 := quot_rng ha.1 (pow_pos s)
  have q2 := quot_rng (show 0 ≤ b * 65536 by omega) (pow_pos s)
  go_enter Try.func45, Try.ntmps45
  go_wp2
  go_quiet (fail)
  go_wp2
  rw [show a - a / 2 ^ s.toNat + b * 65536 / 2 ^ s.toNat = r from hr]
  go_ret
  exact ⟨rfl, by (repeat' (first | (with_reducible (first | exact Below.refl _ _ | assumption | refine below_drewN ?_ _ | refine Below.drew ?_ | refine Below.alloc ?_ ?_ _ | refine Below.setCell ?_ ?_ _)) | go_size))⟩
theorem meOpen :
    Calls Try.prog 20 #[.pointer (some ⟨L, 0, none⟩)] w fun e w' => e = .returned (.tuple #[.int .u64 n, .int .u64 o]) ∧ Below w.heap.size w w' := by
  have cL := hL.cell; have zL := hL.size
  go_enter Try.func20, Try.ntmps20
  go_wp2
  go_quiet (fail)
  go_wp2
  go_returns
  exact ⟨rfl, by (repeat' (first | (with_reducible (first | exact Below.refl _ _ | assumption | refine below_drewN ?_ _ | refine Below.drew ?_ | refine Below.alloc ?_ ?_ _ | refine Below.setCell ?_ ?_ _)) | go_size))⟩
end
theorem wrapU' (x : Int) : 0 ≤ IntKind.u64.wrap x ∧ IntKind.u64.wrap x ≤ 18446744073709551615 := by rw [IntKind.wrap_u64]; omega
theorem wtd {a b q : Int} (hb : 1 ≤ b) (ha : 0 ≤ a ∧ a ≤ 18446744073709551615) (h : a / b = q) : IntKind.u64.wrap (a.tdiv b) = q := by
  have h1 := Int.ediv_nonneg ha.1 (show 0 ≤ b by omega)
  have h2 := Int.ediv_le_self b ha.1
  rw [Int.tdiv_eq_ediv_of_nonneg ha.1, IntWalk.u64_in _ ⟨by omega, by omega⟩, h]
theorem meTurn_bad (L : Nat) (wd s a n o at_ to : Int) (w : World) (hL : Blk w L #[.int .u64 (wd), .int .u64 (s), .int .u64 (a), .int .u64 (n), .int .u64 (o)] 77) (hw : 1 ≤ wd) (hat : 0 ≤ at_ ∧ at_ ≤ 18446744073709551615) (hto : at_ / wd = to) (h : to < n ∨ 4611686018427387904 < at_) :
    Calls Try.prog 35 #[.pointer (some ⟨L, 0, none⟩), .int .u64 at_] w fun e w' => e = .returned (.int .i64 27) ∧ Below w.heap.size w w' := by
  have cL := hL.cell; have zL := hL.size
  have w0 : ¬ wd = 0 := by omega
  have hq := wtd hw hat hto
  have hq2 : 0 ≤ to ∧ to ≤ 18446744073709551615 := by rw [← hq]; exact wrapU' _
  clear hto
  go_enter Try.func35, Try.ntmps35
  go_wp2
  go_step3
  go_wp2
  all_goals first | (exfalso; omega) | ((try rw [Exit.noGoto_ret]); go_ret; exact ⟨rfl, by (repeat' (first | (with_reducible (first | exact Below.refl _ _ | assumption | refine below_drewN ?_ _ | refine Below.drew ?_ | refine Below.alloc ?_ ?_ _ | refine Below.setCell ?_ ?_ _)) | go_size))⟩)
theorem meTurn_same (L : Nat) (wd s a n o at_ to : Int) (w : World) (hL : Blk w L #[.int .u64 (wd), .int .u64 (s), .int .u64 (a), .int .u64 (n), .int .u64 (o)] 77) (hw : 1 ≤ wd) (hat : 0 ≤ at_ ∧ at_ ≤ 18446744073709551615) (hto : at_ / wd = to) (h1 : at_ ≤ 4611686018427387904) (h2 : n = to) :
    Calls Try.prog 35 #[.pointer (some ⟨L, 0, none⟩), .int .u64 at_] w fun e w' => e = .returned (.int .i64 0) ∧ Below w.heap.size w w' := by
  have cL := hL.cell; have zL := hL.size
  have w0 : ¬ wd = 0 := by omega
  have hq := wtd hw hat hto
  have hq2 : 0 ≤ to ∧ to ≤ 18446744073709551615 := by rw [← hq]; exact wrapU' _
  clear hto
  go_enter Try.func35, Try.ntmps35
  go_wp2
  go_step3
  go_wp2
  all_goals first | (exfalso; omega) | ((try rw [Exit.noGoto_ret]); go_ret; exact ⟨rfl, by (repeat' (first | (with_reducible (first | exact Below.refl _ _ | assumption | refine below_drewN ?_ _ | refine Below.drew ?_ | refine Below.alloc ?_ ?_ _ | refine Below.setCell ?_ ?_ _)) | go_size))⟩)
theorem tmps80 (a : Act) (h : a.tmps.size = 80) (hd : a.defers = []) : ∃ u : Nat → Value, a = { tmps := #[u 0, u 1, u 2, u 3, u 4, u 5, u 6, u 7, u 8, u 9, u 10, u 11, u 12, u 13, u 14, u 15, u 16, u 17, u 18, u 19, u 20, u 21, u 22, u 23, u 24, u 25, u 26, u 27, u 28, u 29, u 30, u 31, u 32, u 33, u 34, u 35, u 36, u 37, u 38, u 39, u 40, u 41, u 42, u 43, u 44, u 45, u 46, u 47, u 48, u 49, u 50, u 51, u 52, u 53, u 54, u 55, u 56, u 57, u 58, u 59, u 60, u 61, u 62, u 63, u 64, u 65, u 66, u 67, u 68, u 69, u 70, u 71, u 72, u 73, u 74, u 75, u 76, u 77, u 78, u 79], defers := [] } := by
  obtain ⟨⟨l⟩, d⟩ := a
  simp only [] at hd
  subst hd
  have h' : l.length = 80 := h
  clear h
  obtain _ | ⟨u0, l⟩ := l
  · simp at h'
  obtain _ | ⟨u1, l⟩ := l
  · simp at h'
  obtain _ | ⟨u2, l⟩ := l
  · simp at h'
  obtain _ | ⟨u3, l⟩ := l
  · simp at h'
  obtain _ | ⟨u4, l⟩ := l
  · simp at h'
  obtain _ | ⟨u5, l⟩ := l
  · simp at h'
  obtain _ | ⟨u6, l⟩ := l
  · simp at h'
  obtain _ | ⟨u7, l⟩ := l
  · simp at h'
  obtain _ | ⟨u8, l⟩ := l
  · simp at h'
  obtain _ | ⟨u9, l⟩ := l
  · simp at h'
  obtain _ | ⟨u10, l⟩ := l
  · simp at h'
  obtain _ | ⟨u11, l⟩ := l
  · simp at h'
  obtain _ | ⟨u12, l⟩ := l
  · simp at h'
  obtain _ | ⟨u13, l⟩ := l
  · simp at h'
  obtain _ | ⟨u14, l⟩ := l
  · simp at h'
  obtain _ | ⟨u15, l⟩ := l
  · simp at h'
  obtain _ | ⟨u16, l⟩ := l
  · simp at h'
  obtain _ | ⟨u17, l⟩ := l
  · simp at h'
  obtain _ | ⟨u18, l⟩ := l
  · simp at h'
  obtain _ | ⟨u19, l⟩ := l
  · simp at h'
  obtain _ | ⟨u20, l⟩ := l
  · simp at h'
  obtain _ | ⟨u21, l⟩ := l
  · simp at h'
  obtain _ | ⟨u22, l⟩ := l
  · simp at h'
  obtain _ | ⟨u23, l⟩ := l
  · simp at h'
  obtain _ | ⟨u24, l⟩ := l
  · simp at h'
  obtain _ | ⟨u25, l⟩ := l
  · simp at h'
  obtain _ | ⟨u26, l⟩ := l
  · simp at h'
  obtain _ | ⟨u27, l⟩ := l
  · simp at h'
  obtain _ | ⟨u28, l⟩ := l
  · simp at h'
  obtain _ | ⟨u29, l⟩ := l
  · simp at h'
  obtain _ | ⟨u30, l⟩ := l
  · simp at h'
  obtain _ | ⟨u31, l⟩ := l
  · simp at h'
  obtain _ | ⟨u32, l⟩ := l
  · simp at h'
  obtain _ | ⟨u33, l⟩ := l
  · simp at h'
  obtain _ | ⟨u34, l⟩ := l
  · simp at h'
  obtain _ | ⟨u35, l⟩ := l
  · simp at h'
  obtain _ | ⟨u36, l⟩ := l
  · simp at h'
  obtain _ | ⟨u37, l⟩ := l
  · simp at h'
  obtain _ | ⟨u38, l⟩ := l
  · simp at h'
  obtain _ | ⟨u39, l⟩ := l
  · simp at h'
  obtain _ | ⟨u40, l⟩ := l
  · simp at h'
  obtain _ | ⟨u41, l⟩ := l
  · simp at h'
  obtain _ | ⟨u42, l⟩ := l
  · simp at h'
  obtain _ | ⟨u43, l⟩ := l
  · simp at h'
  obtain _ | ⟨u44, l⟩ := l
  · simp at h'
  obtain _ | ⟨u45, l⟩ := l
  · simp at h'
  obtain _ | ⟨u46, l⟩ := l
  · simp at h'
  obtain _ | ⟨u47, l⟩ := l
  · simp at h'
  obtain _ | ⟨u48, l⟩ := l
  · simp at h'
  obtain _ | ⟨u49, l⟩ := l
  · simp at h'
  obtain _ | ⟨u50, l⟩ := l
  · simp at h'
  obtain _ | ⟨u51, l⟩ := l
  · simp at h'
  obtain _ | ⟨u52, l⟩ := l
  · simp at h'
  obtain _ | ⟨u53, l⟩ := l
  · simp at h'
  obtain _ | ⟨u54, l⟩ := l
  · simp at h'
  obtain _ | ⟨u55, l⟩ := l
  · simp at h'
  obtain _ | ⟨u56, l⟩ := l
  · simp at h'
  obtain _ | ⟨u57, l⟩ := l
  · simp at h'
  obtain _ | ⟨u58, l⟩ := l
  · simp at h'
  obtain _ | ⟨u59, l⟩ := l
  · simp at h'
  obtain _ | ⟨u60, l⟩ := l
  · simp at h'
  obtain _ | ⟨u61, l⟩ := l
  · simp at h'
  obtain _ | ⟨u62, l⟩ := l
  · simp at h'
  obtain _ | ⟨u63, l⟩ := l
  · simp at h'
  obtain _ | ⟨u64, l⟩ := l
  · simp at h'
  obtain _ | ⟨u65, l⟩ := l
  · simp at h'
  obtain _ | ⟨u66, l⟩ := l
  · simp at h'
  obtain _ | ⟨u67, l⟩ := l
  · simp at h'
  obtain _ | ⟨u68, l⟩ := l
  · simp at h'
  obtain _ | ⟨u69, l⟩ := l
  · simp at h'
  obtain _ | ⟨u70, l⟩ := l
  · simp at h'
  obtain _ | ⟨u71, l⟩ := l
  · simp at h'
  obtain _ | ⟨u72, l⟩ := l
  · simp at h'
  obtain _ | ⟨u73, l⟩ := l
  · simp at h'
  obtain _ | ⟨u74, l⟩ := l
  · simp at h'
  obtain _ | ⟨u75, l⟩ := l
  · simp at h'
  obtain _ | ⟨u76, l⟩ := l
  · simp at h'
  obtain _ | ⟨u77, l⟩ := l
  · simp at h'
  obtain _ | ⟨u78, l⟩ := l
  · simp at h'
  obtain _ | ⟨u79, l⟩ := l
  · simp at h'
  obtain _ | ⟨v, l⟩ := l
  · exact ⟨fun k => ([u0, u1, u2, u3, u4, u5, u6, u7, u8, u9, u10, u11, u12, u13, u14, u15, u16, u17, u18, u19, u20, u21, u22, u23, u24, u25, u26, u27, u28, u29, u30, u31, u32, u33, u34, u35, u36, u37, u38, u39, u40, u41, u42, u43, u44, u45, u46, u47, u48, u49, u50, u51, u52, u53, u54, u55, u56, u57, u58, u59, u60, u61, u62, u63, u64, u65, u66, u67, u68, u69, u70, u71, u72, u73, u74, u75, u76, u77, u78, u79] : List Value).getD k undef, rfl⟩
  · simp at h'
/-- What holds where the windows without bytes close. -/
def MRel (L : Nat) (wd s A n to : Int) (w wr : World) : Prop := ∃ b k : Int, Blk wr L #[.int .u64 (wd), .int .u64 (s), .int .u64 (b), .int .u64 (k), .int .u64 (0)] 77 ∧ KeptBut L w wr ∧ n < k ∧ k ≤ to ∧ (0 ≤ b ∧ b ≤ 72057594037927936) ∧ mrun s (to - k).toNat b = A
set_option maxRecDepth 100000 in
set_option maxHeartbeats 2000000 in
theorem meTurn_go (L : Nat) (wd s a n o at_ to : Int) (w : World) (hL : Blk w L #[.int .u64 (wd), .int .u64 (s), .int .u64 (a), .int .u64 (n), .int .u64 (o)] 77) (hw : 1 ≤ wd) (hat : 0 ≤ at_ ∧ at_ ≤ 18446744073709551615) (hto : at_ / wd = to) (h1 : at_ ≤ 4611686018427387904) (h2 : n < to) (hn : 0 ≤ n) (hs : 0 ≤ s ∧ s ≤ 8) (ha : 0 ≤ a ∧ a ≤ 72057594037927936) (hb : 0 ≤ o ∧ o ≤ 1099511627776) :
    Calls Try.prog 35 #[.pointer (some ⟨L, 0, none⟩), .int .u64 at_] w fun e w' => e = .returned (.int .i64 0) ∧ Blk w' L #[.int .u64 (wd), .int .u64 (s), .int .u64 (mavg s a o n to), .int .u64 (to), .int .u64 (0)] 77 ∧ KeptBut L w w' := by
  have cL := hL.cell; have zL := hL.size
  have w0 : ¬ wd = 0 := by omega
  have hq := wtd hw hat hto
  have hq2 : 0 ≤ to ∧ to ≤ 18446744073709551615 := by rw [← hq]; exact wrapU' _
  clear hto
  go_enter Try.func35, Try.ntmps35
  go_wp2
  refine wp_scope_jumps 0 (fun a' w' => a'.tmps.size = 80 ∧ a'.tmps.getD 0 undef = .pointer (some ⟨L, 0, none⟩) ∧ a'.tmps.getD 1 undef = .int .u64 at_ ∧ a'.tmps.getD 4 undef = .int .i64 0 ∧ a'.tmps.getD 5 undef = .int .u64 to ∧ a'.defers = [] ∧ MRel L wd s (mavg s a o n to) n to w w') (fun a' w' => (to - intOf ((w'.cell? ⟨L, 3, none⟩).getD undef)).toNat) rfl ?_ ?_
  · obtain ⟨a1, ha1⟩ : ∃ a1, mst s a o = a1 := ⟨_, rfl⟩
    have r1 := mst_rng (s := s) (C := 72057594037927936) ha ⟨hb.1, by omega⟩
    rw [ha1] at r1
    have hav : mrun s (to - (n + 1)).toNat a1 = mavg s a o n to := by
      unfold mavg; rw [if_neg (by omega), ha1, show to - (n + 1) = to - n - 1 by omega]
    go_wp2_with fail
    refine (meStep L wd s a n o _ hL o a1 hs ha hb ha1).mono ?_
    rintro e w1 ⟨rfl, b1⟩
    have L1 := hL.below b1 zL
    have z1 := L1.size
    have cL1 := L1.cell; have fL1 := L1.frozen
    have kb : KeptBut L w w1 := KeptBut.of_below b1 (by omega)
    clear hL cL ha1 b1
    go_wp2_with fail
    go_step3
    go_wp2_with fail
    obtain ⟨a2, ha2⟩ : ∃ a2, mst s a1 0 = a2 := ⟨_, rfl⟩
    have r2 := mst_rng (s := s) (b := 0) (C := 72057594037927936) r1 ⟨by omega, by omega⟩
    rw [ha2] at r2
    refine (meStep L wd s a1 ((n + 1)) 0 _ (by (repeat' (first | (with_reducible (first | assumption | exact Blk.alloc_new _ _ _ (by first | rfl | (simp; done) | omega) | apply Blk.drewN | apply Blk.drew | apply Blk.alloc_old | apply Blk.set_same | apply Blk.set_other)) | (show (_ : Nat) ≠ _; first | omega | (simp; done) | (simp; omega)) | ((simp only [List.setIfInBounds_toArray, List.set_cons_succ, List.set_cons_zero]); (with_reducible exact rfl)) | (with_reducible exact rfl) | (show (_ : Array Value) = _; exact rfl)))) 0 a2 hs r1 (by omega) ha2).mono ?_
    rintro e w2 ⟨rfl, b2⟩
    have L2 : Blk w2 L #[.int .u64 (wd), .int .u64 (s), .int .u64 (a1), .int .u64 ((n + 1)), .int .u64 (0)] 77 := Blk.below (by (repeat' (first | (with_reducible (first | assumption | exact Blk.alloc_new _ _ _ (by first | rfl | (simp; done) | omega) | apply Blk.drewN | apply Blk.drew | apply Blk.alloc_old | apply Blk.set_same | apply Blk.set_other)) | (show (_ : Nat) ≠ _; first | omega | (simp; done) | (simp; omega)) | ((simp only [List.setIfInBounds_toArray, List.set_cons_succ, List.set_cons_zero]); (with_reducible exact rfl)) | (with_reducible exact rfl) | (show (_ : Array Value) = _; exact rfl)))) b2 (by first | (simp; done) | omega | (simp; omega))
    have z2 := L2.size
    have cL2 := L2.cell; have fL2 := L2.frozen
    have K2 : KeptBut L w w2 := KeptBut.trans (((kb.setCell _ _).setCell _ _).setCell _ _) (KeptBut.of_below b2 (by first | omega | (simp; omega)))
    clear L1 cL1 fL1 kb b2 z1
    by_cases c1 : (n + 1) < to
    · have d1 : decide ((n + 1) < to) = true := decide_eq_true c1
      by_cases c2 : a2 = a1
      · have hA : a1 = mavg s a o n to := by rw [← hav]; exact (mrun_fix (by rw [ha2, c2]) _).symm
        have d2 : (a2 != a1) = false := by rw [c2]; simp
        go_wp2
        (try simp only [Exit.jump])
        (try rw [Exit.noGoto_ret])
        go_ret
        exact ⟨rfl, by rw [← hA]; (repeat' (first | (with_reducible (first | assumption | exact Blk.alloc_new _ _ _ (by first | rfl | (simp; done) | omega) | apply Blk.drewN | apply Blk.drew | apply Blk.alloc_old | apply Blk.set_same | apply Blk.set_other)) | (show (_ : Nat) ≠ _; first | omega | (simp; done) | (simp; omega)) | ((simp only [List.setIfInBounds_toArray, List.set_cons_succ, List.set_cons_zero]); (with_reducible exact rfl)) | (with_reducible exact rfl) | (show (_ : Array Value) = _; exact rfl))), K2.setCell _ _⟩
      · have d2 : (a2 != a1) = true := bne_iff_ne.2 c2
        have hA : mrun s (to - ((n + 1) + 1)).toNat a2 = mavg s a o n to := by
          rw [← hav, show (to - ((n + 1))).toNat = (to - ((n + 1) + 1)).toNat + 1 by omega]; show _ = mrun s _ (mst s a1 0); rw [ha2]
        go_wp2
        go_step3
        exact ⟨rfl, rfl, rfl, rfl, rfl, rfl, rfl, a2, (n + 1) + 1, by (repeat' (first | (with_reducible (first | assumption | exact Blk.alloc_new _ _ _ (by first | rfl | (simp; done) | omega) | apply Blk.drewN | apply Blk.drew | apply Blk.alloc_old | apply Blk.set_same | apply Blk.set_other)) | (show (_ : Nat) ≠ _; first | omega | (simp; done) | (simp; omega)) | ((simp only [List.setIfInBounds_toArray, List.set_cons_succ, List.set_cons_zero]); (with_reducible exact rfl)) | (with_reducible exact rfl) | (show (_ : Array Value) = _; exact rfl))), (K2.setCell _ _).setCell _ _, by omega, by omega, r2, hA⟩
    · have d1 : decide ((n + 1) < to) = false := decide_eq_false c1
      have hA : a1 = mavg s a o n to := by rw [← hav, show (to - ((n + 1))).toNat = 0 by omega]; rfl
      go_wp2
      (try simp only [Exit.jump])
      (try rw [Exit.noGoto_ret])
      go_ret
      exact ⟨rfl, by rw [← hA]; (repeat' (first | (with_reducible (first | assumption | exact Blk.alloc_new _ _ _ (by first | rfl | (simp; done) | omega) | apply Blk.drewN | apply Blk.drew | apply Blk.alloc_old | apply Blk.set_same | apply Blk.set_other)) | (show (_ : Nat) ≠ _; first | omega | (simp; done) | (simp; omega)) | ((simp only [List.setIfInBounds_toArray, List.set_cons_succ, List.set_cons_zero]); (with_reducible exact rfl)) | (with_reducible exact rfl) | (show (_ : Array Value) = _; exact rfl))), K2.setCell _ _⟩
  · intro a' w' hJ
    obtain ⟨hsz, j0, j1, j4, j5, hdf, b, k, L1, kb, k0, k1, b0, hav⟩ := hJ
    obtain ⟨u, rfl⟩ := tmps80 a' hsz hdf
    clear hsz hdf
    have e0 : u 0 = .pointer (some ⟨L, 0, none⟩) := j0
    have e1 : u 1 = .int .u64 at_ := j1
    have e4 : u 4 = .int .i64 0 := j4
    have e5 : u 5 = .int .u64 to := j5
    clear j0 j1 j4 j5
    rw [e0, e1, e4, e5]
    clear e0 e1 e4 e5
    have z1 := L1.size
    have cL1 := L1.cell; have fL1 := L1.frozen
    have hn3 : intOf ((w'.cell? ⟨L, 3, none⟩).getD undef) = k := by rw [cL1]; rfl
    rw [hn3]
    clear hL cL zL
    go_wp2_with fail
    obtain ⟨a2, ha2⟩ : ∃ a2, mst s b 0 = a2 := ⟨_, rfl⟩
    have r2 := mst_rng (s := s) (b := 0) (C := 72057594037927936) b0 ⟨by omega, by omega⟩
    rw [ha2] at r2
    refine (meStep L wd s b (k) 0 _ (by (repeat' (first | (with_reducible (first | assumption | exact Blk.alloc_new _ _ _ (by first | rfl | (simp; done) | omega) | apply Blk.drewN | apply Blk.drew | apply Blk.alloc_old | apply Blk.set_same | apply Blk.set_other)) | (show (_ : Nat) ≠ _; first | omega | (simp; done) | (simp; omega)) | ((simp only [List.setIfInBounds_toArray, List.set_cons_succ, List.set_cons_zero]); (with_reducible exact rfl)) | (with_reducible exact rfl) | (show (_ : Array Value) = _; exact rfl)))) 0 a2 hs b0 (by omega) ha2).mono ?_
    rintro e w2 ⟨rfl, b2⟩
    have L2 : Blk w2 L #[.int .u64 (wd), .int .u64 (s), .int .u64 (b), .int .u64 (k), .int .u64 (0)] 77 := Blk.below (by (repeat' (first | (with_reducible (first | assumption | exact Blk.alloc_new _ _ _ (by first | rfl | (simp; done) | omega) | apply Blk.drewN | apply Blk.drew | apply Blk.alloc_old | apply Blk.set_same | apply Blk.set_other)) | (show (_ : Nat) ≠ _; first | omega | (simp; done) | (simp; omega)) | ((simp only [List.setIfInBounds_toArray, List.set_cons_succ, List.set_cons_zero]); (with_reducible exact rfl)) | (with_reducible exact rfl) | (show (_ : Array Value) = _; exact rfl)))) b2 (by first | (simp; done) | omega | (simp; omega))
    have z2 := L2.size
    have cL2 := L2.cell; have fL2 := L2.frozen
    have K2 : KeptBut L w w2 := KeptBut.trans (kb) (KeptBut.of_below b2 (by first | omega | (simp; omega)))
    clear L1 cL1 fL1 kb b2 z1
    by_cases c1 : k < to
    · have d1 : decide (k < to) = true := decide_eq_true c1
      by_cases c2 : a2 = b
      · have hA : b = mavg s a o n to := by rw [← hav]; exact (mrun_fix (by rw [ha2, c2]) _).symm
        have d2 : (a2 != b) = false := by rw [c2]; simp
        go_wp2
        (try simp only [Exit.jump])
        (try rw [Exit.noGoto_ret])
        go_ret
        exact ⟨rfl, by rw [← hA]; (repeat' (first | (with_reducible (first | assumption | exact Blk.alloc_new _ _ _ (by first | rfl | (simp; done) | omega) | apply Blk.drewN | apply Blk.drew | apply Blk.alloc_old | apply Blk.set_same | apply Blk.set_other)) | (show (_ : Nat) ≠ _; first | omega | (simp; done) | (simp; omega)) | ((simp only [List.setIfInBounds_toArray, List.set_cons_succ, List.set_cons_zero]); (with_reducible exact rfl)) | (with_reducible exact rfl) | (show (_ : Array Value) = _; exact rfl))), K2.setCell _ _⟩
      · have d2 : (a2 != b) = true := bne_iff_ne.2 c2
        have hA : mrun s (to - (k + 1)).toNat a2 = mavg s a o n to := by
          rw [← hav, show (to - (k)).toNat = (to - (k + 1)).toNat + 1 by omega]; show _ = mrun s _ (mst s b 0); rw [ha2]
        go_wp2
        go_step3
        refine ⟨rfl, ⟨rfl, rfl, rfl, rfl, rfl, rfl, a2, k + 1, by (repeat' (first | (with_reducible (first | assumption | exact Blk.alloc_new _ _ _ (by first | rfl | (simp; done) | omega) | apply Blk.drewN | apply Blk.drew | apply Blk.alloc_old | apply Blk.set_same | apply Blk.set_other)) | (show (_ : Nat) ≠ _; first | omega | (simp; done) | (simp; omega)) | ((simp only [List.setIfInBounds_toArray, List.set_cons_succ, List.set_cons_zero]); (with_reducible exact rfl)) | (with_reducible exact rfl) | (show (_ : Array Value) = _; exact rfl))), (K2.setCell _ _).setCell _ _, by omega, by omega, r2, hA⟩, ?_⟩
        have LX : Blk ((w2.setCell ⟨L, 2, none⟩ (.int .u64 a2)).setCell ⟨L, 3, none⟩ (.int .u64 (k + 1))) L #[.int .u64 (wd), .int .u64 (s), .int .u64 (a2), .int .u64 (k + 1), .int .u64 (0)] 77 := by (repeat' (first | (with_reducible (first | assumption | exact Blk.alloc_new _ _ _ (by first | rfl | (simp; done) | omega) | apply Blk.drewN | apply Blk.drew | apply Blk.alloc_old | apply Blk.set_same | apply Blk.set_other)) | (show (_ : Nat) ≠ _; first | omega | (simp; done) | (simp; omega)) | ((simp only [List.setIfInBounds_toArray, List.set_cons_succ, List.set_cons_zero]); (with_reducible exact rfl)) | (with_reducible exact rfl) | (show (_ : Array Value) = _; exact rfl)))
        have e3 : intOf ((((w2.setCell ⟨L, 2, none⟩ (.int .u64 a2)).setCell ⟨L, 3, none⟩ (.int .u64 (k + 1))).cell? ⟨L, 3, none⟩).getD undef) = k + 1 := by rw [LX.cell]; rfl
        show (to - intOf ((((w2.setCell ⟨L, 2, none⟩ (.int .u64 a2)).setCell ⟨L, 3, none⟩ (.int .u64 (k + 1))).cell? ⟨L, 3, none⟩).getD undef)).toNat < (to - k).toNat
        rw [e3]
        omega
    · have d1 : decide (k < to) = false := decide_eq_false c1
      have hA : b = mavg s a o n to := by rw [← hav, show (to - (k)).toNat = 0 by omega]; rfl
      go_wp2
      (try simp only [Exit.jump])
      (try rw [Exit.noGoto_ret])
      go_ret
      exact ⟨rfl, by rw [← hA]; (repeat' (first | (with_reducible (first | assumption | exact Blk.alloc_new _ _ _ (by first | rfl | (simp; done) | omega) | apply Blk.drewN | apply Blk.drew | apply Blk.alloc_old | apply Blk.set_same | apply Blk.set_other)) | (show (_ : Nat) ≠ _; first | omega | (simp; done) | (simp; omega)) | ((simp only [List.setIfInBounds_toArray, List.set_cons_succ, List.set_cons_zero]); (with_reducible exact rfl)) | (with_reducible exact rfl) | (show (_ : Array Value) = _; exact rfl))), K2.setCell _ _⟩

end Go.Proofs.Ytldahcfggeebgaa
