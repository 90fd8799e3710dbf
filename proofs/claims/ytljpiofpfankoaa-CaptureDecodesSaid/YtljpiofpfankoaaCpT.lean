/-
  CaptureDecodes: which capture any bytes are, or why they are none; encode of decode are the bytes. Conditions: none.
-/
import Derived.Test.YtljpiofpfankoaaCpS
import Derived.Test.YtljpiofpfankoaaCpR
import Derived.ChangeMaps5
namespace Go.Proofs.Ytljpiofpfankoaa
open Go.RowKit Go.Sort Go.ChangeShapes Go.WideShapes Go.ChangeAt
open Go.ChangeMaps (open_string shut_string)
set_option linter.unusedVariables false
set_option linter.unusedSimpArgs false
set_option maxRecDepth 100000 in
set_option maxHeartbeats 4000000 in
theorem capDecodes_long (l : List Int) (w : World) (h : 200000 < l.length) : Calls Try.prog 4 #[SV l] w fun e w' => e = .returned (.bool true) ∧ Below w.heap.size w w' := by
  have ks := sv_size
  have d0 : decide (200000 < (l.length : Int)) = true := decide_eq_true (by omega)
  have d0n : decide (200000 < l.length) = true := decide_eq_true h
  go_enter Try.func4, Try.ntmps4
  go_wp2_with fail
  refine (capOne _).mono ?_
  rintro e w1 ⟨rfl, hb1⟩
  have g1 : Below w.heap.size w w1 := by refine Below.trans ?_ (hb1.mono ?_) <;> (repeat' (first | (with_reducible (first | exact Below.refl _ _ | assumption | refine below_drewN ?_ _ | refine Below.drew ?_ | refine Below.alloc ?_ ?_ _ | refine Below.setCell ?_ ?_ _)) | go_size))
  have hz1 := hb1.size
  (try simp at hz1)
  clear hb1
  go_wp2
  go_ret
  exact ⟨rfl, by (repeat' (first | (with_reducible (first | exact Below.refl _ _ | assumption | refine below_drewN ?_ _ | refine Below.drew ?_ | refine Below.alloc ?_ ?_ _ | refine Below.setCell ?_ ?_ _)) | go_size))⟩
set_option maxRecDepth 100000 in
set_option maxHeartbeats 4000000 in
theorem capDecodes_bad (l : List Int) (e : Int) (w : World) (hn : l.length ≤ 200000) (he : e ≠ 0)
    (KD : Hid (∀ v, Calls Try.prog 17 #[SV l] v fun r w' => r = .returned (.tuple #[.slice none 0 0, .int .i64 e]) ∧ Below v.heap.size v w'))
    (KR : Hid (∀ v, Calls Try.prog 20 #[SV l] v fun r w' => r = .returned (.agg #[.slice none 0 0, .int .i64 e]) ∧ Below v.heap.size v w'))
    (KS : Hid (∀ v, Calls Try.prog 19 #[.slice none 0 0, .slice none 0 0] v fun r w' => r = .returned (.bool true) ∧ Below v.heap.size v w')) : Calls Try.prog 4 #[SV l] w fun e w' => e = .returned (.bool true) ∧ Below w.heap.size w w' := by
  have ks := sv_size
  have d0 : decide (200000 < (l.length : Int)) = false := decide_eq_false (by omega)
  have d0n : decide (200000 < l.length) = false := decide_eq_false (by omega)
  have hxb : (e != 0) = true := bne_iff_ne.2 he
  have hee : (e != e) = false := by simp
  go_enter Try.func4, Try.ntmps4
  go_wp2_with fail
  refine (KD.out _).mono ?_
  rintro e w1 ⟨rfl, hb1⟩
  have g1 : Below w.heap.size w w1 := by refine Below.trans ?_ (hb1.mono ?_) <;> (repeat' (first | (with_reducible (first | exact Below.refl _ _ | assumption | refine below_drewN ?_ _ | refine Below.drew ?_ | refine Below.alloc ?_ ?_ _ | refine Below.setCell ?_ ?_ _)) | go_size))
  have hz1 := hb1.size
  (try simp at hz1)
  clear hb1
  go_wp2_with fail
  refine (KR.out _).mono ?_
  rintro e w2 ⟨rfl, hb2⟩
  have g2 : Below w.heap.size w w2 := by refine Below.trans ?_ (hb2.mono ?_) <;> (repeat' (first | (with_reducible (first | exact Below.refl _ _ | assumption | refine below_drewN ?_ _ | refine Below.drew ?_ | refine Below.alloc ?_ ?_ _ | refine Below.setCell ?_ ?_ _)) | go_size))
  have hz2 := hb2.size
  (try simp at hz2)
  clear hb2
  go_wp2_with fail
  refine (KS.out _).mono ?_
  rintro e w3 ⟨rfl, hb3⟩
  have g3 : Below w.heap.size w w3 := by refine Below.trans ?_ (hb3.mono ?_) <;> (repeat' (first | (with_reducible (first | exact Below.refl _ _ | assumption | refine below_drewN ?_ _ | refine Below.drew ?_ | refine Below.alloc ?_ ?_ _ | refine Below.setCell ?_ ?_ _)) | go_size))
  have hz3 := hb3.size
  (try simp at hz3)
  clear hb3
  go_wp2_with fail
  refine (capOne _).mono ?_
  rintro e w4 ⟨rfl, hb4⟩
  have g4 : Below w.heap.size w w4 := by refine Below.trans ?_ (hb4.mono ?_) <;> (repeat' (first | (with_reducible (first | exact Below.refl _ _ | assumption | refine below_drewN ?_ _ | refine Below.drew ?_ | refine Below.alloc ?_ ?_ _ | refine Below.setCell ?_ ?_ _)) | go_size))
  have hz4 := hb4.size
  (try simp at hz4)
  clear hb4
  go_wp2
  go_ret
  exact ⟨rfl, by (repeat' (first | (with_reducible (first | exact Below.refl _ _ | assumption | refine below_drewN ?_ _ | refine Below.drew ?_ | refine Below.alloc ?_ ?_ _ | refine Below.setCell ?_ ?_ _)) | go_size))⟩
set_option maxRecDepth 100000 in
set_option maxHeartbeats 4000000 in
theorem capDecodes_ok (l : List Int) (L : List FM) (w : World) (hn : l.length ≤ 200000)
    (KD : Hid (∀ v, Calls Try.prog 17 #[SV l] v fun r w' => ∃ u, r = .returned (.tuple #[u, .int .i64 0]) ∧ HoldFr w' v.heap.size u L ∧ Below v.heap.size v w'))
    (KR : Hid (∀ v, Calls Try.prog 20 #[SV l] v fun r w' => ∃ u, r = .returned (.agg #[u, .int .i64 0]) ∧ HoldRf w' (v.heap.size + 1) u L ∧ Below v.heap.size v w'))
    (KS : Hid (∀ v b m b' u, HoldFr v b m L → HoldRf v b' u L → Calls Try.prog 19 #[m, u] v fun r w' => r = .returned (.bool true) ∧ Below v.heap.size v w'))
    (KE : Hid (∀ v b u, HoldFr v b u L → Calls Try.prog 14 #[u] v fun r w' => r = .returned (.tuple #[SV l, .int .i64 0]) ∧ Below v.heap.size v w')) : Calls Try.prog 4 #[SV l] w fun e w' => e = .returned (.bool true) ∧ Below w.heap.size w w' := by
  have ks := sv_size
  have d0 : decide (200000 < (l.length : Int)) = false := decide_eq_false (by omega)
  have d0n : decide (200000 < l.length) = false := decide_eq_false (by omega)
  have q1 : ∀ v, (binOp .eql 9 (SV l) (SV l)).run Try.prog v = .ok (.bool true) v := strq _
  go_enter Try.func4, Try.ntmps4
  go_wp2_with fail
  refine (KD.out _).mono ?_
  rintro e w1 ⟨u1, rfl, H1, hb1⟩
  have g1 : Below w.heap.size w w1 := by refine Below.trans ?_ (hb1.mono ?_) <;> (repeat' (first | (with_reducible (first | exact Below.refl _ _ | assumption | refine below_drewN ?_ _ | refine Below.drew ?_ | refine Below.alloc ?_ ?_ _ | refine Below.setCell ?_ ?_ _)) | go_size))
  have hz1 := hb1.size
  (try simp at hz1)
  clear hb1
  go_wp2_with fail
  refine (KR.out _).mono ?_
  rintro e w2 ⟨u2, rfl, H2, hb2⟩
  have H1a := H1.below hb2; have g2 : Below w.heap.size w w2 := by refine Below.trans ?_ (hb2.mono ?_) <;> (repeat' (first | (with_reducible (first | exact Below.refl _ _ | assumption | refine below_drewN ?_ _ | refine Below.drew ?_ | refine Below.alloc ?_ ?_ _ | refine Below.setCell ?_ ?_ _)) | go_size))
  have hz2 := hb2.size
  (try simp at hz2)
  clear hb2
  obtain ⟨oa, oc, rfl⟩ := H2.slice
  go_wp2_with fail
  have B3 := Below.refl w2.heap.size w2
  have B4 : Below w2.heap.size w2 _ := Below.alloc B3 (Nat.le_refl _) (.cells #[.slice oa L.length oc, .int .i64 0] 36)
  have H1b := H1a.below B4
  have H2b := H2.below B4
  refine (KS.out _ _ _ _ _ H1b H2b).mono ?_
  rintro e w3 ⟨rfl, hb3⟩
  have H1c := H1b.below hb3; have g3 : Below w.heap.size w w3 := by refine Below.trans ?_ (hb3.mono ?_) <;> (repeat' (first | (with_reducible (first | exact Below.refl _ _ | assumption | refine below_drewN ?_ _ | refine Below.drew ?_ | refine Below.alloc ?_ ?_ _ | refine Below.setCell ?_ ?_ _)) | go_size))
  have hz3 := hb3.size
  (try simp at hz3)
  clear hb3
  go_wp2_with fail
  refine (KE.out _ _ _ H1c).mono ?_
  rintro e w4 ⟨rfl, hb4⟩
  have g4 : Below w.heap.size w w4 := by refine Below.trans ?_ (hb4.mono ?_) <;> (repeat' (first | (with_reducible (first | exact Below.refl _ _ | assumption | refine below_drewN ?_ _ | refine Below.drew ?_ | refine Below.alloc ?_ ?_ _ | refine Below.setCell ?_ ?_ _)) | go_size))
  have hz4 := hb4.size
  (try simp at hz4)
  clear hb4
  go_wp2_with fail
  refine (capOne _).mono ?_
  rintro e w5 ⟨rfl, hb5⟩
  have g5 : Below w.heap.size w w5 := by refine Below.trans ?_ (hb5.mono ?_) <;> (repeat' (first | (with_reducible (first | exact Below.refl _ _ | assumption | refine below_drewN ?_ _ | refine Below.drew ?_ | refine Below.alloc ?_ ?_ _ | refine Below.setCell ?_ ?_ _)) | go_size))
  have hz5 := hb5.size
  (try simp at hz5)
  clear hb5
  go_wp2
  go_ret
  exact ⟨rfl, by (repeat' (first | (with_reducible (first | exact Below.refl _ _ | assumption | refine below_drewN ?_ _ | refine Below.drew ?_ | refine Below.alloc ?_ ?_ _ | refine Below.setCell ?_ ?_ _)) | go_size))⟩
theorem CaptureDecodes_walk (a : ByteArray) (w : World) : Calls Try.prog 4 #[.string a] w fun e w' => e = .returned (.bool true) ∧ Below w.heap.size w w' := by
  rw [numsOf_sv a]
  have hl := numsOf_byt a
  generalize numsOf a = l at hl ⊢
  by_cases h0 : 200000 < l.length
  · exact capDecodes_long l w h0
  have hb : l.length ≤ 4611686018427387904 := by omega
  by_cases he : (decE l).1 = 0
  · obtain ⟨e, L, hE⟩ : ∃ e L, decE l = (e, L) := ⟨_, _, rfl⟩
    rw [hE] at he
    obtain rfl : e = 0 := he
    obtain ⟨e1, e2, e3, e4⟩ := enc_dec46 l L hl hE
    refine capDecodes_ok l L w (by omega) (hide fun v => ?_) (hide fun v => ?_) (same_frames L (by omega)) (hide fun v b u h => ?_)
    · have h := capDecode l v hl hb
      rw [hE] at h
      refine h.mono ?_
      rintro e w' ⟨u, q1, q2, q3, q4⟩
      exact ⟨u, q1, q2 rfl, q4⟩
    · have h := rDecode46 l v hl hb
      rw [hE] at h
      refine h.mono ?_
      rintro e w' ⟨u, q1, q2, q3, q4⟩
      exact ⟨u, q1, q2 rfl, q4⟩
    · obtain ⟨a1, c1, g1, rfl, k1, l1, m1, n1⟩ := own_at h
      have h := capEncode L a1 g1 0 c1 0 l v l1 m1 n1 e4 e3 k1 e2 e1
      rw [if_pos rfl] at h; exact h
  · refine capDecodes_bad l (decE l).1 w (by omega) he (hide fun v => ?_) (hide fun v => ?_) (hide fun v => ?_)
    · refine (capDecode l v hl hb).mono ?_
      rintro e w' ⟨u, q1, q2, q3, q4⟩
      obtain rfl := q3 he
      exact ⟨q1, q4⟩
    · refine (rDecode46 l v hl hb).mono ?_
      rintro e w' ⟨u, q1, q2, q3, q4⟩
      obtain rfl := q3 he
      exact ⟨q1, q4⟩
    · exact (same_frames [] (by simp)).out v v.heap.size _ v.heap.size _ (HoldFr.nil _ _) (HoldRf.nil _ _)
namespace captureDecodesDone
theorem own : ownKnob Try.prog.godebug = none := by kernel_rfl
theorem laidOut : laidOutB Try.prog = true := by kernel_rfl
set_option maxRecDepth 100000 in
theorem lifted (os : Os) (started : os.Started) (H : Type) (enc : TypeId × Value → H) :
    ReturnsInHanded {} Try.checked os 4 .any (Rows.captureDecodesSpec.pre6 enc Try.prog Try.f4 Rows.captureDecodesRow.domain false) (Rows.captureDecodesSpec.post enc Try.prog Try.f4 false true false false) := by
  refine returnsInHanded_of_change (C := Try.checked) own started (by kernel_rfl) Try.func4
    (ChangeSpec.witness6 (enc := enc) (C := Try.checked) false ⟨#[], #[.string ⟨#[]⟩], []⟩ 8 (by kernel_rfl) (by kernel_rfl) (by kernel_rfl) (by kernel_rfl)) ?_
  intro W base args ds gs before hval0 hW hcnd _
  have hval : ∀ (j : Nat) t v, Try.f4.params[j]? = some t → args[j]? = some v → Value.okWide Try.prog W .any base t v := hval0
  have hW' := hW
  obtain ⟨p, q, hA0, hV, rfl, hfz, hnd⟩ := hW
  have hA : DataW.TrodAll enc Try.prog W 0 (fun _ => true) true Try.f4.params.toList args.toList ds p := hA0
  rw [Try.params4] at hA hval
  obtain ⟨v0, vs0, d0, ds0, p0, q0, hargs, rfl, rfl, h0, r0⟩ := trodAll_cons hA
  obtain ⟨rfl, rfl, rfl⟩ := trodAll_nil r0
  obtain rfl : args = #[v0] := by cases args; simp_all
  obtain ⟨rfl, rfl⟩ := trodVars_none hV
  obtain ⟨a0, rfl, rfl, rfl, wf0⟩ := open_string Try.underlying9 (hval 0 9 v0 rfl rfl) h0
  clear hA0 hval0
  refine (CaptureDecodes_walk a0 W).mono fun e W' ⟨he, bel⟩ => ?_
  subst he
  exact ⟨_, rfl, _, _, _, [], _, [], hW', trodAll_mk1 (shut_bool Try.underlying4 _), (trodAll_cons_mk (shut_string Try.underlying9 wf0) trodAll_mk0), rfl, bel.frame _, fun h => by cases h⟩
theorem over : Rows.captureDecodesRow.holds Try.pinned (OpenSpec.ofChange Rows.captureDecodesSpec) :=
  OpenClaim.holds_of_wide 4 Try.f4 rfl rfl rfl rfl rfl rfl rfl ⟨rfl, rfl, rfl, rfl, rfl⟩ rfl rfl rfl rfl rfl (by kernel_rfl) Try.func4 (by kernel_rfl)
    (of_decide_eq_true (by kernel_rfl)) (by unfold Func.isWrapper; first | (rw [if_pos (by decide +kernel)]; kernel_rfl) | (rw [if_neg (by decide +kernel)]; exact ⟨rfl, rfl⟩))
    (fun os started H enc _ => lifted os started H enc)
end captureDecodesDone
theorem CaptureDecodes_holds : Rows.CaptureDecodesSaid := captureDecodesDone.over

end Go.Proofs.Ytljpiofpfankoaa
