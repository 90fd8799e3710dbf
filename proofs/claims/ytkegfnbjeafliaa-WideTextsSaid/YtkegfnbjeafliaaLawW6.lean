/-
  The statement WideTexts: any number in tens: digits alone, no 0 ahead of others. Conditions: none.
-/
import Derived.Test.YtkegfnbjeafliaaLawW1
import Derived.Test.YtkegfnbjeafliaaRefT
namespace Go.Proofs.Ytkegfnbjeafliaa
open Go.ChangeShapes Go.WideShapes Go.ChangeAt Go.RowKit
set_option linter.unusedVariables false
/-- A text of digits, with no 0 ahead of others. -/
def Tens (S : ByteArray) : Prop := 1 ≤ S.size ∧ S.size ≤ 39 ∧ (∀ i (h : i < S.size), 48 ≤ (S[i].toNat : Int) ∧ (S[i].toNat : Int) ≤ 57) ∧ ((h : 0 < S.size) → (S[0].toNat : Int) = 48 → S.size ≤ 1)
theorem dec_tens {A : Int} (hA : In128 A) : Tens ⟨(dec A).toArray⟩ := by
  obtain ⟨h1, h2, h3, h4⟩ := decF_ok 38 A hA.1 (by have := hA.2; omega)
  have e : decF (38 + 1) A = dec A := rfl
  rw [e] at h1 h2 h3 h4
  have hs : (⟨(dec A).toArray⟩ : ByteArray).size = (dec A).length := by simp [ByteArray.size]
  refine ⟨by omega, by omega, fun i h => ?_, fun h hz => ?_⟩
  · have := h1 ((dec A)[i]'(by omega)) (List.getElem_mem _)
    show 48 ≤ ((((dec A)[i]'(by omega)).toNat : Nat) : Int) ∧ _
    exact ⟨by omega, by have := this.2; show ((((dec A)[i]'(by omega)).toNat : Nat) : Int) ≤ 57; omega⟩
  · have hz' : ((dec A)[0]'(by omega)).toNat = 48 := by
      have : ((((dec A)[0]'(by omega)).toNat : Nat) : Int) = 48 := hz
      omega
    have h0 := h4 ((dec A)[0]'(by omega)) (List.getElem?_eq_getElem (by omega)) hz'
    subst h0
    rw [hs]; decide
set_option maxHeartbeats 1000000 in
theorem WideTexts_main (a : Int) (ha : In128 a) (w : World) :
    Calls Try.prog 8 #[wv a] w fun e w' => e = .returned (.bool true) ∧ Below w.heap.size w w' := by
  have hT := dec_tens ha
  obtain ⟨S, hS⟩ : ∃ S, (⟨(dec a).toArray⟩ : ByteArray) = S := ⟨_, rfl⟩
  rw [hS] at hT
  have c1 : ∀ v, Calls Try.prog 24 #[wv a] v fun e w' => e = .returned (.string S) ∧ Below v.heap.size v w' := fun v => by rw [← hS]; exact wText a v ha
  have c2 : ∀ v, Calls Try.prog 25 #[nv a] v fun e w' => e = .returned (.string S) ∧ Below v.heap.size v w' := fun v => by rw [← hS]; exact rText a v ha
  have C1 := hide c1; have C2 := hide c2; clear c1 c2 hS
  obtain ⟨t1, t2, t3, t4⟩ := hT
  have T3 := hide t3; have T4 := hide t4; clear t3 t4
  have s1 : (1 : Int) ≤ (S.size : Int) := by omega
  have s2 : (S.size : Int) ≤ 39 := by omega
  go_enter Try.func8, Try.ntmps8
  go_wp2_with fail
  refine (C1.out _).mono ?_
  rintro e w1 ⟨rfl, hb1⟩
  have A1 : Blk w1 (w.heap.size) #[.int .u64 (hi (a)), .int .u64 (lo (a))] 41 := Blk.below (by (repeat' (first | (with_reducible assumption) | (with_reducible exact Blk.alloc_new _ _ _ (by first | rfl | (simp; done) | omega)) | (with_reducible refine Blk.drewN ?_ _) | (with_reducible refine Blk.drew ?_) | (with_reducible refine Blk.alloc_old ?_ _) | (with_reducible apply Blk.set_same) | (with_reducible refine Blk.set_other ?_ (by first | omega | (simp; done) | (simp; omega)) _) | (exact rfl)))) hb1 (by first | (simp; done) | omega | (simp; omega))
  have g1 : Below w.heap.size w w1 := by refine Below.trans ?_ (hb1.mono ?_) <;> (repeat' (first | (with_reducible exact Below.refl _ _) | (with_reducible assumption) | (with_reducible refine below_drewN ?_ _) | (with_reducible refine Below.drew ?_) | (with_reducible refine Below.alloc ?_ ?_ _) | (with_reducible refine Below.setCell ?_ ?_ _) | go_size))
  have hz1 := hb1.size
  (try simp at hz1)
  clear hb1
  replace cA := A1.cell
  replace fA := A1.frozen
  replace zA := A1.size
  go_wp2
  go_loop [9] (fun i => ∃ k : Nat, k ≤ S.size ∧ i = .int .i64 k) (fun i => S.size - (intOf i).toNat)
  case atStart => exact ⟨0, Nat.zero_le _, rfl⟩
  case round =>
    obtain ⟨k, hk, rfl⟩ := hrel
    by_cases hlt : k < S.size
    · have hx := T3.out k hlt
      by_cases h0 : k = 0
      · subst h0
        by_cases hz : (S[0].toNat : Int) = 48
        · have hone := T4.out hlt hz
          have b1 : ((S[0].toNat : Int) == 48) = true := beq_iff_eq.2 hz
          have b2 : decide ((1 : Int) < (S.size : Int)) = false := decide_eq_false (by omega)
          clear hz
          go_wp2
          go_round
          case rel => exact ⟨1, by omega, rfl⟩
          case measure => simp [intOf]; omega
        · have b1 : ((S[0].toNat : Int) == 48) = false := beq_eq_false_iff_ne.2 hz
          clear hz
          go_wp2
          go_round
          case rel => exact ⟨1, by omega, rfl⟩
          case measure => simp [intOf]; omega
      · have b1 : ((k : Int) == 0) = false := beq_eq_false_iff_ne.2 (by omega)
        go_wp2
        go_round
        case rel => exact ⟨k + 1, by omega, by go_num⟩
        case measure => simp [intOf]; omega
    · obtain rfl : k = S.size := by omega
      go_wp2_with fail
      refine (lref a _ ha).mono ?_
      rintro e w2 ⟨rfl, hb2⟩
      have A2 : Blk w2 (w.heap.size) #[.int .u64 (hi (a)), .int .u64 (lo (a))] 41 := Blk.below (by (repeat' (first | (with_reducible assumption) | (with_reducible exact Blk.alloc_new _ _ _ (by first | rfl | (simp; done) | omega)) | (with_reducible refine Blk.drewN ?_ _) | (with_reducible refine Blk.drew ?_) | (with_reducible refine Blk.alloc_old ?_ _) | (with_reducible apply Blk.set_same) | (with_reducible refine Blk.set_other ?_ (by first | omega | (simp; done) | (simp; omega)) _) | (exact rfl)))) hb2 (by first | (simp; done) | omega | (simp; omega))
      have g2 : Below w.heap.size w w2 := by refine Below.trans ?_ (hb2.mono ?_) <;> (repeat' (first | (with_reducible exact Below.refl _ _) | (with_reducible assumption) | (with_reducible refine below_drewN ?_ _) | (with_reducible refine Below.drew ?_) | (with_reducible refine Below.alloc ?_ ?_ _) | (with_reducible refine Below.setCell ?_ ?_ _) | go_size))
      have hz2 := hb2.size
      (try simp at hz2)
      clear hb2
      replace cA := A2.cell
      replace fA := A2.frozen
      replace zA := A2.size
      go_wp2_with fail
      refine (C2.out _).mono ?_
      rintro e w3 ⟨rfl, hb3⟩
      have A3 : Blk w3 (w.heap.size) #[.int .u64 (hi (a)), .int .u64 (lo (a))] 41 := Blk.below (by (repeat' (first | (with_reducible assumption) | (with_reducible exact Blk.alloc_new _ _ _ (by first | rfl | (simp; done) | omega)) | (with_reducible refine Blk.drewN ?_ _) | (with_reducible refine Blk.drew ?_) | (with_reducible refine Blk.alloc_old ?_ _) | (with_reducible apply Blk.set_same) | (with_reducible refine Blk.set_other ?_ (by first | omega | (simp; done) | (simp; omega)) _) | (exact rfl)))) hb3 (by first | (simp; done) | omega | (simp; omega))
      have g3 : Below w.heap.size w w3 := by refine Below.trans ?_ (hb3.mono ?_) <;> (repeat' (first | (with_reducible exact Below.refl _ _) | (with_reducible assumption) | (with_reducible refine below_drewN ?_ _) | (with_reducible refine Below.drew ?_) | (with_reducible refine Below.alloc ?_ ?_ _) | (with_reducible refine Below.setCell ?_ ?_ _) | go_size))
      have hz3 := hb3.size
      (try simp at hz3)
      clear hb3
      replace cA := A3.cell
      replace fA := A3.frozen
      replace zA := A3.size
      go_wp2_with fail
      refine (six_true _).mono ?_
      rintro e w4 ⟨rfl, hb4⟩
      have A4 : Blk w4 (w.heap.size) #[.int .u64 (hi (a)), .int .u64 (lo (a))] 41 := Blk.below (by (repeat' (first | (with_reducible assumption) | (with_reducible exact Blk.alloc_new _ _ _ (by first | rfl | (simp; done) | omega)) | (with_reducible refine Blk.drewN ?_ _) | (with_reducible refine Blk.drew ?_) | (with_reducible refine Blk.alloc_old ?_ _) | (with_reducible apply Blk.set_same) | (with_reducible refine Blk.set_other ?_ (by first | omega | (simp; done) | (simp; omega)) _) | (exact rfl)))) hb4 (by first | (simp; done) | omega | (simp; omega))
      have g4 : Below w.heap.size w w4 := by refine Below.trans ?_ (hb4.mono ?_) <;> (repeat' (first | (with_reducible exact Below.refl _ _) | (with_reducible assumption) | (with_reducible refine below_drewN ?_ _) | (with_reducible refine Below.drew ?_) | (with_reducible refine Below.alloc ?_ ?_ _) | (with_reducible refine Below.setCell ?_ ?_ _) | go_size))
      have hz4 := hb4.size
      (try simp at hz4)
      clear hb4
      replace cA := A4.cell
      replace fA := A4.frozen
      replace zA := A4.size
      go_wp2
      go_ret
      exact ⟨rfl, by (repeat' (first | (with_reducible exact Below.refl _ _) | (with_reducible assumption) | (with_reducible refine below_drewN ?_ _) | (with_reducible refine Below.drew ?_) | (with_reducible refine Below.alloc ?_ ?_ _) | (with_reducible refine Below.setCell ?_ ?_ _) | go_size))⟩
theorem WideTexts_walk (a1 : Int) (h1 : 0 ≤ a1 ∧ a1 ≤ 18446744073709551615) (a2 : Int) (h2 : 0 ≤ a2 ∧ a2 ≤ 18446744073709551615) (w : World) :
    Calls Try.prog 8 #[.agg #[.int .u64 a1, .int .u64 a2]] w fun e w' => e = .returned (.bool true) ∧ Below w.heap.size w w' := by
  obtain ⟨a, ha, rfl, rfl⟩ := wv_of h1 h2
  exact WideTexts_main a ha w
namespace wideTextsDone
theorem own : ownKnob Try.prog.godebug = none := by kernel_rfl
theorem laidOut : laidOutB Try.prog = true := by kernel_rfl
set_option maxRecDepth 100000 in
theorem lifted (os : Os) (started : os.Started) (H : Type) (enc : TypeId × Value → H) :
    ReturnsInHanded {} Try.checked os 8 .any (Rows.wideTextsSpec.pre6 enc Try.prog Try.f8 Rows.wideTextsRow.domain false) (Rows.wideTextsSpec.post enc Try.prog Try.f8 false true false false) := by
  refine returnsInHanded_of_change (C := Try.checked) own started (by kernel_rfl) Try.func8
    (ChangeSpec.witness6 (enc := enc) (C := Try.checked) false ⟨#[], #[.agg #[.int .u64 0, .int .u64 0]], []⟩ 8 (by kernel_rfl) (by kernel_rfl) (by kernel_rfl) (by kernel_rfl)) ?_
  intro W base args ds gs before hval0 hW hcnd _
  have hval : ∀ (j : Nat) t v, Try.f8.params[j]? = some t → args[j]? = some v → Value.okWide Try.prog W .any base t v := hval0
  have hW' := hW
  obtain ⟨p, q, hA0, hV, rfl, hfz, hnd⟩ := hW
  have hA : DataW.TrodAll enc Try.prog W 0 (fun _ => true) true Try.f8.params.toList args.toList ds p := hA0
  rw [Try.params8] at hA hval
  obtain ⟨v0, vs0, d0, ds0, p0, q0, hargs, rfl, rfl, h0, r0⟩ := trodAll_cons hA
  obtain ⟨rfl, rfl, rfl⟩ := trodAll_nil r0
  obtain rfl : args = #[v0] := by cases args; simp_all
  obtain ⟨rfl, rfl⟩ := trodVars_none hV
  have k0 := h0
  have lt0 : ∀ x ∈ p0, x.block < W.heap.size := by obtain ⟨m, hm⟩ := k0; exact DataW.trod_lt m _ _ _ hm
  obtain ⟨x0_0, x0_1, y0_0, y0_1, m0, rfl, hd0, hp0, q0_0, q0_1⟩ := Joins.open_agg2 Try.underlying41 (by kernel_rfl) (show Try.prog.cellsOf 41 = 2 by kernel_rfl) (hval 0 41 v0 rfl rfl) h0
  obtain ⟨a0_0, e0_0, _, wf0_0⟩ := DataW.trod_int Try.underlying22 q0_0
  simp at e0_0
  subst e0_0
  have b0_0 := bounds_u64 wf0_0
  obtain ⟨a0_1, e0_1, _, wf0_1⟩ := DataW.trod_int Try.underlying22 q0_1
  simp at e0_1
  subst e0_1
  have b0_1 := bounds_u64 wf0_1
  clear hA0 hval0
  refine (WideTexts_walk a0_0 b0_0 a0_1 b0_1 W).mono fun e W' ⟨he, bel⟩ => ?_
  subst he
  exact ⟨_, rfl, _, _, _, [], _, [], hW', trodAll_mk1 (shut_bool Try.underlying4 _), (trodAll_cons_mk (Below.trod laidOut (by kernel_rfl) (of_decide_eq_true (by kernel_rfl)) k0 bel lt0) trodAll_mk0), rfl, bel.frame _, fun h => by cases h⟩
theorem over : Rows.wideTextsRow.holds Try.pinned (OpenSpec.ofChange Rows.wideTextsSpec) :=
  OpenClaim.holds_of_wide 8 Try.f8 rfl rfl rfl rfl rfl rfl rfl ⟨rfl, rfl, rfl, rfl, rfl⟩ rfl rfl rfl rfl rfl (by kernel_rfl) Try.func8 (by kernel_rfl)
    (of_decide_eq_true (by kernel_rfl)) (by unfold Func.isWrapper; first | (rw [if_pos (by decide +kernel)]; kernel_rfl) | (rw [if_neg (by decide +kernel)]; exact ⟨rfl, rfl⟩))
    (fun os started H enc _ => lifted os started H enc)
end wideTextsDone
theorem WideTexts_holds : Rows.WideTextsSaid := wideTextsDone.over

end Go.Proofs.Ytkegfnbjeafliaa
