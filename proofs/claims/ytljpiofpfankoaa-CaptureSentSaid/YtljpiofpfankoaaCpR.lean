/-
  CaptureEncodes: any capture as bytes, or why it has none; decode of encode are the frames. Conditions: none.
-/
import Derived.Test.YtljpiofpfankoaaCpQ
import Derived.Test.YtljpiofpfankoaaFrame
namespace Go.Proofs.Ytljpiofpfankoaa
open Go.RowKit Go.Sort Go.ChangeShapes Go.WideShapes Go.ChangeAt
set_option linter.unusedVariables false
set_option linter.unusedSimpArgs false
theorem okay_few {w : World} {a : Option Addr} {L : List FM} (hF : Frames w a L) (h : fewG L 0 = true) : ∀ f ∈ L, f.ok := fun f hf => by
  obtain ⟨h1, h2⟩ := hF.2 f hf
  have := few_all L 0 h f hf
  exact ⟨h1, h2, by omega⟩
theorem few_false (a : Option Addr) (cap : Nat) (L : List FM) (w : World) (hF : Frames w a L) (hcap : L.length ≤ cap) (h : 1001 < L.length ∨ fewG L 0 = false) : Hid (∀ v, Below w.heap.size w v → Calls Try.prog 12 #[.slice a L.length cap] v fun r w' => r = .returned (.bool false) ∧ Below v.heap.size v w') := by
  refine hide fun v hv => ?_
  obtain ⟨b, off, ha, hb, hL⟩ := hF.at
  by_cases hn : 1001 < L.length
  · exact capFew_long a L.length cap v hn
  · have hf : fewG L 0 = false := by rcases h with h | h; exact absurd h hn; exact h
    by_cases h0 : L = []
    · subst h0; exact capFew0 [] a b off cap false v ha (fun h => absurd rfl h) (fun i f hf => by simp at hf) (by simp) hcap hf
    · exact capFew0 L a b off cap false v ha (fun h => Nat.lt_of_lt_of_le (hb h) hv.size) (hL.below hv (hb h0)) (by omega) hcap hf
theorem few_true (a : Option Addr) (cap : Nat) (L : List FM) (w : World) (hF : Frames w a L) (hcap : L.length ≤ cap) (hn : L.length ≤ 1001) (hf : fewG L 0 = true) : Hid (∀ v, Below w.heap.size w v → Calls Try.prog 12 #[.slice a L.length cap] v fun r w' => r = .returned (.bool true) ∧ Below v.heap.size v w') := by
  refine hide fun v hv => ?_
  obtain ⟨b, off, ha, hb, hL⟩ := hF.at
  by_cases h0 : L = []
  · subst h0; exact capFew0 [] a b off cap true v ha (fun h => absurd rfl h) (fun i f hf => by simp at hf) (by simp) hcap hf
  · exact capFew0 L a b off cap true v ha (fun h => Nat.lt_of_lt_of_le (hb h) hv.size) (hL.below hv (hb h0)) (by omega) hcap hf
theorem Frames.later {w v : World} {a : Option Addr} {L : List FM} (hF : Frames w a L) (hv : Below w.heap.size w v) : Frames v a L := by
  refine ⟨fun h => ?_, hF.2⟩
  obtain ⟨b, off, h1, h2, h3⟩ := hF.1 h
  exact ⟨b, off, h1, Nat.lt_of_lt_of_le h2 hv.size, h3.below hv h2⟩
theorem ref_frames (a : Option Addr) (cap : Nat) (L : List FM) (w : World) (hF : Frames w a L) (hcap : L.length ≤ cap) (hn : L.length ≤ 2000) : Hid (∀ v, Below w.heap.size w v → Calls Try.prog 16 #[.slice a L.length cap] v fun r w' => ∃ u, r = .returned u ∧ HoldRf w' v.heap.size u L ∧ Below v.heap.size v w') := by
  refine hide fun v hv => ?_
  obtain ⟨b, off, ha, hb, hL⟩ := (hF.later hv).at
  exact capRef L a b off cap v ha hb hL hn hcap
theorem enc_frames (a : Option Addr) (cap : Nat) (L : List FM) (w : World) (hF : Frames w a L) (ok : ∀ f ∈ L, f.ok) (hcap : L.length ≤ cap) (hn : L.length ≤ 1000) : Hid (∀ v, Below w.heap.size w v → Calls Try.prog 14 #[.slice a L.length cap] v fun r w' => r = .returned (.tuple #[if capE L 0 = 0 then SV (capB L flog) else .string ⟨#[]⟩, .int .i64 (capE L 0)]) ∧ Below v.heap.size v w') := by
  refine hide fun v hv => ?_
  obtain ⟨b, off, ha, hb, hL⟩ := (hF.later hv).at
  exact capEncode L a b off cap _ _ v ha hb hL ok hn hcap rfl rfl
theorem same_frames (L : List FM) (hn : L.length ≤ 2000) : Hid (∀ v b m b' u, HoldFr v b m L → HoldRf v b' u L → Calls Try.prog 19 #[m, u] v fun r w' => r = .returned (.bool true) ∧ Below v.heap.size v w') := by
  refine hide fun v b m b' u h1 h2 => ?_
  obtain ⟨a1, c1, g1, rfl, k1, l1, m1, n1⟩ := own_at h1
  obtain ⟨a2, c2, g2, rfl, k2, l2, m2, n2⟩ := own_at h2
  exact capSame L a1 a2 g1 0 g2 0 c1 c2 v l1 m1 n1 l2 m2 n2 (by omega) k1 k2
theorem wrong_frames (L : List FM) (ok : ∀ f ∈ L, f.ok) (hn : L.length ≤ 1000) : Hid (∀ v b u, HoldRf v b u L → Calls Try.prog 15 #[u] v fun r w' => r = .returned (.int .i64 (capE L 0)) ∧ Below v.heap.size v w') := by
  refine hide fun v b u h2 => ?_
  obtain ⟨a2, c2, g2, rfl, k2, l2, m2, n2⟩ := own_at h2
  exact rWrong46 L a2 g2 0 c2 _ v l2 m2 n2 ok hn k2 rfl
theorem wrong_frames2 (L : List FM) (hn : 1000 < L.length) : Hid (∀ v b u, HoldRf v b u L → Calls Try.prog 15 #[u] v fun r w' => r = .returned (.int .i64 2) ∧ Below v.heap.size v w') := by
  refine hide fun v b u h2 => ?_
  obtain ⟨a2, c2, g2, rfl, k2, l2, m2, n2⟩ := own_at h2
  exact rWrong_long _ _ _ v hn
theorem CaptureEncodes_walk (w : World) (a : Option Addr) (cap : Nat) (L : List FM) (hF : Frames w a L) (hcap : L.length ≤ cap) (hcm : cap ≤ maxLen) : Calls Try.prog 3 #[.slice a L.length cap] w fun e w' => e = .returned (.bool true) ∧ Below w.heap.size w w' := by
  by_cases hf : 1001 < L.length ∨ fewG L 0 = false
  · exact capEncodes_few _ w (few_false a cap L w hF hcap hf)
  have hn : L.length ≤ 1001 := by omega
  have hft : fewG L 0 = true := by cases h : fewG L 0 with | true => rfl | false => exact absurd (.inr h) hf
  have ok := okay_few hF hft
  have KF := few_true a cap L w hF hcap hn hft
  have KR := ref_frames a cap L w hF hcap (by omega)
  by_cases h1 : 1000 < L.length
  · refine capEncodes_bad _ L 2 w (by decide) KF (hide fun v hv => ?_) KR (wrong_frames2 L h1)
    exact capEnc_2 L a cap v h1 (by omega)
  have KE := enc_frames a cap L w hF ok hcap (by omega)
  have KW := wrong_frames L ok (by omega)
  by_cases he : capE L 0 = 0
  · rw [he, if_pos rfl] at KE
    rw [he] at KW
    have hall := capE'_all L 0 (capE_iff L 0 he)
    refine capEncodes_ok _ L (capB L flog) w KF KE KR KW (hide fun v b u h2 => ?_) (hide fun v => ?_) (same_frames L (by omega))
    · obtain ⟨a2, c2, g2, rfl, k2, l2, m2, n2⟩ := own_at h2
      exact rEncode46 L a2 g2 0 c2 _ v l2 m2 n2 ok (fun f hf => ⟨(hall f hf).1, (hall f hf).2.1⟩) (by omega) k2 rfl
    · have hb := cap_byt L (fun f hf => (ok f hf).2.1)
      have hup := flen_up L (fun f hf => (hall f hf).2.1)
      have hlen : (capB L flog).length ≤ 4611686018427387904 := by
        rw [capB_eq, List.length_append]; have : flog.length = 4 := rfl; omega
      have h := capDecode (capB L flog) v hb hlen
      rw [dec_enc46 L (fun f hf => (ok f hf).1.1) (by omega) he] at h
      refine h.mono ?_
      rintro e w' ⟨u, q1, q2, q3, q4⟩
      exact ⟨u, q1, q2 rfl, q4⟩
  · rw [if_neg he] at KE
    exact capEncodes_bad _ L _ w he KF KE KR KW
namespace captureEncodesDone
theorem own : ownKnob Try.prog.godebug = none := by kernel_rfl
theorem laidOut : laidOutB Try.prog = true := by kernel_rfl
set_option maxRecDepth 100000 in
theorem lifted (os : Os) (started : os.Started) (H : Type) (enc : TypeId × Value → H) :
    ReturnsInHanded {} Try.checked os 3 .any (Rows.captureEncodesSpec.pre6 enc Try.prog Try.f3 Rows.captureEncodesRow.domain false) (Rows.captureEncodesSpec.post enc Try.prog Try.f3 false true false false) := by
  refine returnsInHanded_of_change (C := Try.checked) own started (by kernel_rfl) Try.func3
    (ChangeSpec.witness6 (enc := enc) (C := Try.checked) false ⟨#[], #[.slice none 0 0], []⟩ 8 (by kernel_rfl) (by kernel_rfl) (by kernel_rfl) (by kernel_rfl)) ?_
  intro W base args ds gs before hval0 hW hcnd _
  have hval : ∀ (j : Nat) t v, Try.f3.params[j]? = some t → args[j]? = some v → Value.okWide Try.prog W .any base t v := hval0
  have hW' := hW
  obtain ⟨p, q, hA0, hV, rfl, hfz, hnd⟩ := hW
  have hA : DataW.TrodAll enc Try.prog W 0 (fun _ => true) true Try.f3.params.toList args.toList ds p := hA0
  rw [Try.params3] at hA hval
  obtain ⟨v0, vs0, d0, ds0, p0, q0, hargs, rfl, rfl, h0, r0⟩ := trodAll_cons hA
  obtain ⟨rfl, rfl, rfl⟩ := trodAll_nil r0
  obtain rfl : args = #[v0] := by cases args; simp_all
  obtain ⟨rfl, rfl⟩ := trodVars_none hV
  obtain ⟨s0, len0, cap0, rfl⟩ := okWide_slice Try.underlying22 (hval 0 22 v0 rfl rfl)
  have k0 := h0
  have lt0 : ∀ x ∈ p0, x.block < W.heap.size := by obtain ⟨m, hm⟩ := k0; exact DataW.trod_lt m _ _ _ hm
  obtain ⟨L0, hl0, hc0, hm0, hF0⟩ : ∃ L : List FM, L.length = len0 ∧ len0 ≤ cap0 ∧ cap0 ≤ maxLen ∧ Frames W s0 L := by obtain ⟨fuel, hf⟩ := h0; exact open_frames (by simpa [Value.cells] using hf)
  subst hl0
  clear hA0 hval0
  refine (CaptureEncodes_walk W s0 cap0 L0 hF0 hc0 hm0).mono fun e W' ⟨he, bel⟩ => ?_
  subst he
  exact ⟨_, rfl, _, _, _, [], _, [], hW', trodAll_mk1 (shut_bool Try.underlying4 _), (trodAll_cons_mk (Below.trod laidOut (by kernel_rfl) (of_decide_eq_true (by kernel_rfl)) k0 bel lt0) trodAll_mk0), rfl, bel.frame _, fun h => by cases h⟩
theorem over : Rows.captureEncodesRow.holds Try.pinned (OpenSpec.ofChange Rows.captureEncodesSpec) :=
  OpenClaim.holds_of_wide 3 Try.f3 rfl rfl rfl rfl rfl rfl rfl ⟨rfl, rfl, rfl, rfl, rfl⟩ rfl rfl rfl rfl rfl (by kernel_rfl) Try.func3 (by kernel_rfl)
    (of_decide_eq_true (by kernel_rfl)) (by unfold Func.isWrapper; first | (rw [if_pos (by decide +kernel)]; kernel_rfl) | (rw [if_neg (by decide +kernel)]; exact ⟨rfl, rfl⟩))
    (fun os started H enc _ => lifted os started H enc)
end captureEncodesDone
theorem CaptureEncodes_holds : Rows.CaptureEncodesSaid := captureEncodesDone.over

end Go.Proofs.Ytljpiofpfankoaa
