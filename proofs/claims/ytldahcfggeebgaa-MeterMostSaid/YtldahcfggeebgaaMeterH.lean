/-
  The statement MeterMost: if no window has more than so many bytes, the average is at no time above those, times 2^16. Conditions: none.
-/
import Derived.Test.YtldahcfggeebgaaMeterF
namespace Go.Proofs.Ytldahcfggeebgaa
open Go.ChangeShapes Go.WideShapes Go.ChangeAt Go.RowKit
set_option linter.unusedVariables false
set_option linter.unusedSimpArgs false
theorem MeterMost_out (wd s : Int) (a0 : Option Addr) (len cap : Nat) (w : World) (h : 60 < len ∨ ¬ (1 ≤ wd ∧ wd ≤ 4294967296 ∧ 0 ≤ s ∧ s ≤ 8)) :
    Calls Try.prog 4 #[.int .u64 wd, .int .i64 s, .slice a0 len cap] w fun e w' => e = .returned (.bool true) ∧ Below w.heap.size w w' := by
  by_cases a1 : 60 < len
  · have d1 : decide ((60 : Int) < (len : Int)) = true := decide_eq_true (by omega)
    go_enter Try.func4, Try.ntmps4
    go_wp2_with fail
    refine (eighty_true _).mono ?_
    rintro e w1 ⟨rfl, hb1⟩
    have g1 : Below w.heap.size w w1 := by refine Below.trans ?_ (hb1.mono ?_) <;> (repeat' (first | (with_reducible (first | exact Below.refl _ _ | assumption | refine below_drewN ?_ _ | refine Below.drew ?_ | refine Below.alloc ?_ ?_ _ | refine Below.setCell ?_ ?_ _)) | go_size))
    have hz1 := hb1.size
    (try simp at hz1)
    clear hb1
    go_wp2
    go_ret
    exact ⟨rfl, by (repeat' (first | (with_reducible (first | exact Below.refl _ _ | assumption | refine below_drewN ?_ _ | refine Below.drew ?_ | refine Below.alloc ?_ ?_ _ | refine Below.setCell ?_ ?_ _)) | go_size))⟩
  · have d1 : decide ((60 : Int) < (len : Int)) = false := decide_eq_false (by omega)
    go_enter Try.func4, Try.ntmps4
    go_wp2_with fail
    refine (rMay wd s false _ (decide_eq_false (by omega))).mono ?_
    rintro e u1 ⟨rfl, rfl⟩
    go_wp2_with fail
    refine (eighty_true _).mono ?_
    rintro e w2 ⟨rfl, hb2⟩
    have g2 : Below w.heap.size w w2 := by refine Below.trans ?_ (hb2.mono ?_) <;> (repeat' (first | (with_reducible (first | exact Below.refl _ _ | assumption | refine below_drewN ?_ _ | refine Below.drew ?_ | refine Below.alloc ?_ ?_ _ | refine Below.setCell ?_ ?_ _)) | go_size))
    have hz2 := hb2.size
    (try simp at hz2)
    clear hb2
    go_wp2
    go_ret
    exact ⟨rfl, by (repeat' (first | (with_reducible (first | exact Below.refl _ _ | assumption | refine below_drewN ?_ _ | refine Below.drew ?_ | refine Below.alloc ?_ ?_ _ | refine Below.setCell ?_ ?_ _)) | go_size))⟩
theorem MMost.keep {a o M N : Int} (h : MMost M a o) (hN : M ≤ N) : MMost N a o := by unfold MMost at *; omega
def GRel (wd s : Int) (len : Nat) (w : World) (m i : Value) (wr : World) : Prop := ∃ (k : Nat) (a n o M : Int), k ≤ len ∧ i = .int .i64 k ∧ m = .int .u64 M ∧ Below w.heap.size w wr ∧ Blk wr w.heap.size #[.int .u64 (wd), .int .u64 (s), .int .u64 (a), .int .u64 (n), .int .u64 (o)] 77 ∧ MIn a n o ∧ MMost M a o ∧ (0 ≤ M ∧ M ≤ 1099511627776)
set_option maxHeartbeats 2000000 in
theorem MeterMost_main (wd s : Int) (a0 : Option Addr) (len cap : Nat) (w : World) (h1 : 1 ≤ wd ∧ wd ≤ 4294967296) (h2 : 0 ≤ s ∧ s ≤ 8) (hl : len ≤ 60) (hr : Rows_call47 w a0 len) :
    Calls Try.prog 4 #[.int .u64 wd, .int .i64 s, .slice a0 len cap] w fun e w' => e = .returned (.bool true) ∧ Below w.heap.size w w' := by
  have d1 : decide ((60 : Int) < (len : Int)) = false := decide_eq_false (by omega)
  have Hr := hide hr; clear hr
  go_enter Try.func4, Try.ntmps4
  go_wp2_with fail
  refine (rMay wd s true _ (decide_eq_true (by omega))).mono ?_
  rintro e u1 ⟨rfl, rfl⟩
  go_wp2_with fail
  refine (meNew wd s _ h1 h2).mono ?_
  rintro e w1 ⟨rfl, b1, L1⟩
  go_wp2
  go_loopw [9, 34] (fun m i wr => GRel wd s len w m i wr) (fun _ i _ => len - (intOf i).toNat)
  case atStart => exact ⟨0, 0, 0, 0, 0, Nat.zero_le _, rfl, rfl, b1, L1, by unfold MIn; omega, by unfold MMost; omega, by omega, by omega⟩
  case round =>
    obtain ⟨k, a, n, o, M, hk, rfl, rfl, g0, L0, hi, hM, hM0⟩ := hrel
    have zL := L0.size; have cL := L0.cell; have fL := L0.frozen
    have hl0 := g0.size
    by_cases hlt : k < len
    · obtain ⟨B, off, rfl, hB, hc⟩ : ∃ b off, a0 = some ⟨b, off, none⟩ ∧ b < w.heap.size ∧ _ := by
        rcases Hr.out with h | h
        · omega
        · exact h
      obtain ⟨kd, at_, b, hkd, hat, hb, e0, e1, e2⟩ := hc k hlt
      clear hc
      have cc : ∀ o, wr.cell? ⟨B, o, none⟩ = w.cell? ⟨B, o, none⟩ := fun o => g0.cell (p := ⟨B, o, none⟩) hB
      rw [← cc] at e0 e1 e2
      clear cc
      by_cases hz : kd = 0
      · have dz : (kd == 0) = true := beq_iff_eq.2 hz
        go_wp2_with fail
        refine (meAvg_any w.heap.size wd s a n o at_ _ (by (repeat' (first | (with_reducible (first | assumption | exact Blk.alloc_new _ _ _ (by first | rfl | (simp; done) | omega) | apply Blk.drewN | apply Blk.drew | apply Blk.alloc_old | apply Blk.set_same | apply Blk.set_other)) | (show (_ : Nat) ≠ _; first | omega | (simp; done) | (simp; omega)) | ((simp only [List.setIfInBounds_toArray, List.set_cons_succ, List.set_cons_zero]); (with_reducible exact rfl)) | (with_reducible exact rfl) | (show (_ : Array Value) = _; exact rfl)))) h1.1 h2 hat hi).mono ?_
        rintro e w2 ⟨r, k', a', n', o', rfl, L2, K2, hi', hm', r0⟩
        obtain ⟨hm1, hm2⟩ := hm' M hM
        have g2 : Below w.heap.size w w2 := by refine Below.trans ?_ K2.1 <;> (repeat' (first | (with_reducible (first | exact Below.refl _ _ | assumption | refine below_drewN ?_ _ | refine Below.drew ?_ | refine Below.alloc ?_ ?_ _ | refine Below.setCell ?_ ?_ _)) | go_size))
        have d2 : decide (M * 65536 < r) = false := decide_eq_false (by omega)
        by_cases hk0 : k' = 0
        · have d3 : (k' == 0) = true := beq_iff_eq.2 hk0
          go_wp2
          go_roundw
          case rel => exact ⟨k + 1, a', n', o', M, by omega, by go_num, rfl, g2, L2, hi', hm2, hM0⟩
          case measure => simp [intOf]; omega
        · have d3 : (k' == 0) = false := beq_eq_false_iff_ne.2 hk0
          go_wp2
          go_roundw
          case rel => exact ⟨k + 1, a', n', o', M, by omega, by go_num, rfl, g2, L2, hi', hm2, hM0⟩
          case measure => simp [intOf]; omega
      · have dz : (kd == 0) = false := beq_eq_false_iff_ne.2 hz
        go_wp2_with fail
        refine (meAdd_any w.heap.size wd s a n o at_ b _ (by (repeat' (first | (with_reducible (first | assumption | exact Blk.alloc_new _ _ _ (by first | rfl | (simp; done) | omega) | apply Blk.drewN | apply Blk.drew | apply Blk.alloc_old | apply Blk.set_same | apply Blk.set_other)) | (show (_ : Nat) ≠ _; first | omega | (simp; done) | (simp; omega)) | ((simp only [List.setIfInBounds_toArray, List.set_cons_succ, List.set_cons_zero]); (with_reducible exact rfl)) | (with_reducible exact rfl) | (show (_ : Array Value) = _; exact rfl)))) h1.1 h2 hat hb hi).mono ?_
        rintro e w2 ⟨k', a', n', o', rfl, L2, K2, hi', hm'⟩
        have hm2 := hm' M hM
        have g2 : Below w.heap.size w w2 := by refine Below.trans ?_ K2.1 <;> (repeat' (first | (with_reducible (first | exact Below.refl _ _ | assumption | refine below_drewN ?_ _ | refine Below.drew ?_ | refine Below.alloc ?_ ?_ _ | refine Below.setCell ?_ ?_ _)) | go_size))
        have g2s := g2.size
        replace zL := L2.size; replace cL := L2.cell; replace fL := L2.frozen
        have ho := hi'.2.2
        go_wp2_with fail
        refine (meOpen w.heap.size wd s a' n' o' _ L2).mono ?_
        rintro e w3 ⟨rfl, hb3⟩
        have L3 : Blk w3 (w.heap.size) #[.int .u64 (wd), .int .u64 (s), .int .u64 (a'), .int .u64 (n'), .int .u64 (o')] 77 := Blk.below (by (repeat' (first | (with_reducible (first | assumption | exact Blk.alloc_new _ _ _ (by first | rfl | (simp; done) | omega) | apply Blk.drewN | apply Blk.drew | apply Blk.alloc_old | apply Blk.set_same | apply Blk.set_other)) | (show (_ : Nat) ≠ _; first | omega | (simp; done) | (simp; omega)) | ((simp only [List.setIfInBounds_toArray, List.set_cons_succ, List.set_cons_zero]); (with_reducible exact rfl)) | (with_reducible exact rfl) | (show (_ : Array Value) = _; exact rfl)))) hb3 (by first | (simp; done) | omega | (simp; omega))
        have g3 : Below w.heap.size w w3 := by refine Below.trans ?_ (hb3.mono ?_) <;> (repeat' (first | (with_reducible (first | exact Below.refl _ _ | assumption | refine below_drewN ?_ _ | refine Below.drew ?_ | refine Below.alloc ?_ ?_ _ | refine Below.setCell ?_ ?_ _)) | go_size))
        have hz3 := hb3.size
        (try simp at hz3)
        clear hb3
        replace cL := L3.cell
        replace fL := L3.frozen
        replace zL := L3.size
        by_cases hmx : M < o'
        · have d3 : max M o' = o' := by omega
          go_wp2
          all_goals first
            | (exfalso; omega)
            | (go_roundw
               case rel => exact ⟨k + 1, a', n', o', o', by omega, by go_num, by first | rfl | (simp; omega), g3, L3, hi', by unfold MMost; omega, ho⟩
               case measure => simp [intOf]; omega)
        · have d3 : max M o' = M := by omega
          go_wp2
          all_goals first
            | (exfalso; omega)
            | (go_roundw
               case rel => exact ⟨k + 1, a', n', o', M, by omega, by go_num, by first | rfl | (simp; omega), g3, L3, hi', by unfold MMost; omega, hM0⟩
               case measure => simp [intOf]; omega)
    · go_wp2_with fail
      refine (eighty_true _).mono ?_
      rintro e w2 ⟨rfl, hb2⟩
      have g2 : Below w.heap.size w w2 := by refine Below.trans ?_ (hb2.mono ?_) <;> (repeat' (first | (with_reducible (first | exact Below.refl _ _ | assumption | refine below_drewN ?_ _ | refine Below.drew ?_ | refine Below.alloc ?_ ?_ _ | refine Below.setCell ?_ ?_ _)) | go_size))
      have hz2 := hb2.size
      (try simp at hz2)
      clear hb2
      go_wp2
      go_ret
      exact ⟨rfl, by (repeat' (first | (with_reducible (first | exact Below.refl _ _ | assumption | refine below_drewN ?_ _ | refine Below.drew ?_ | refine Below.alloc ?_ ?_ _ | refine Below.setCell ?_ ?_ _)) | go_size))⟩
theorem MeterMost_walk (wd : Int) (hwd : 0 ≤ wd ∧ wd ≤ 18446744073709551615) (s : Int) (hs : -9223372036854775808 ≤ s ∧ s ≤ 9223372036854775807) (a0 : Option Addr) (len cap : Nat) (w : World) (h : Rows_call47 w a0 len ∧ len ≤ maxLen) :
    Calls Try.prog 4 #[.int .u64 wd, .int .i64 s, .slice a0 len cap] w fun e w' => e = .returned (.bool true) ∧ Below w.heap.size w w' := by
  by_cases hh : 60 < len ∨ ¬ (1 ≤ wd ∧ wd ≤ 4294967296 ∧ 0 ≤ s ∧ s ≤ 8)
  · exact MeterMost_out wd s a0 len cap w hh
  · exact MeterMost_main wd s a0 len cap w (by omega) (by omega) (by omega) h.1
namespace meterMostDone
theorem own : ownKnob Try.prog.godebug = none := by kernel_rfl
theorem laidOut : laidOutB Try.prog = true := by kernel_rfl
set_option maxRecDepth 100000 in
theorem lifted (os : Os) (started : os.Started) (H : Type) (enc : TypeId × Value → H) :
    ReturnsInHanded {} Try.checked os 4 .any (Rows.meterMostSpec.pre6 enc Try.prog Try.f4 Rows.meterMostRow.domain false) (Rows.meterMostSpec.post enc Try.prog Try.f4 false true false false) := by
  refine returnsInHanded_of_change (C := Try.checked) own started (by kernel_rfl) Try.func4
    (ChangeSpec.witness6 (enc := enc) (C := Try.checked) false ⟨#[], #[.int .u64 0, .int .i64 0, .slice none 0 0], []⟩ 8 (by kernel_rfl) (by kernel_rfl) (by kernel_rfl) (by kernel_rfl)) ?_
  intro W base args ds gs before hval0 hW hcnd _
  have hval : ∀ (j : Nat) t v, Try.f4.params[j]? = some t → args[j]? = some v → Value.okWide Try.prog W .any base t v := hval0
  have hW' := hW
  obtain ⟨p, q, hA0, hV, rfl, hfz, hnd⟩ := hW
  have hA : DataW.TrodAll enc Try.prog W 0 (fun _ => true) true Try.f4.params.toList args.toList ds p := hA0
  rw [Try.params4] at hA hval
  obtain ⟨v0, vs0, d0, ds0, p0, q0, hargs, rfl, rfl, h0, r0⟩ := trodAll_cons hA
  obtain ⟨v1, vs1, d1, ds1, p1, q1, rfl, rfl, rfl, h1, r1⟩ := trodAll_cons r0
  obtain ⟨v2, vs2, d2, ds2, p2, q2, rfl, rfl, rfl, h2, r2⟩ := trodAll_cons r1
  obtain ⟨rfl, rfl, rfl⟩ := trodAll_nil r2
  obtain rfl : args = #[v0, v1, v2] := by cases args; simp_all
  obtain ⟨rfl, rfl⟩ := trodVars_none hV
  obtain ⟨a0, rfl, rfl, rfl, wf0⟩ := open_int Try.underlying22 (hval 0 22 v0 rfl rfl) h0
  have b0 := bounds_u64 wf0
  obtain ⟨a1, rfl, rfl, rfl, wf1⟩ := open_int Try.underlying3 (hval 1 3 v1 rfl rfl) h1
  have b1 := bounds_i64 wf1
  obtain ⟨s2, len2, cap2, rfl⟩ := okWide_slice Try.underlying23 (hval 2 23 v2 rfl rfl)
  have k2 := h2
  have lt2 : ∀ x ∈ p2, x.block < W.heap.size := by obtain ⟨m, hm⟩ := k2; exact DataW.trod_lt m _ _ _ hm
  have w2 : Rows_call47 W s2 len2 ∧ len2 ≤ maxLen := by obtain ⟨fuel, hf⟩ := h2; exact open_call47s (by simpa [Value.cells] using hf)
  clear hA0 hval0
  refine (MeterMost_walk a0 b0 a1 b1 s2 len2 cap2 W w2).mono fun e W' ⟨he, bel⟩ => ?_
  subst he
  exact ⟨_, rfl, _, _, _, [], _, [], hW', trodAll_mk1 (shut_bool Try.underlying4 _), (trodAll_cons_mk (shut_int Try.underlying22 wf0) (trodAll_cons_mk (shut_int Try.underlying3 wf1) (trodAll_cons_mk (Below.trod laidOut (by kernel_rfl) (of_decide_eq_true (by kernel_rfl)) k2 bel lt2) trodAll_mk0))), rfl, bel.frame _, fun h => by cases h⟩
theorem over : Rows.meterMostRow.holds Try.pinned (OpenSpec.ofChange Rows.meterMostSpec) :=
  OpenClaim.holds_of_wide 4 Try.f4 rfl rfl rfl rfl rfl rfl rfl ⟨rfl, rfl, rfl, rfl, rfl⟩ rfl rfl rfl rfl rfl (by kernel_rfl) Try.func4 (by kernel_rfl)
    (of_decide_eq_true (by kernel_rfl)) (by unfold Func.isWrapper; first | (rw [if_pos (by decide +kernel)]; kernel_rfl) | (rw [if_neg (by decide +kernel)]; exact ⟨rfl, rfl⟩))
    (fun os started H enc _ => lifted os started H enc)
end meterMostDone
theorem MeterMost_holds : Rows.MeterMostSaid := meterMostDone.over

end Go.Proofs.Ytldahcfggeebgaa
