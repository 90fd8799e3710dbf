/-
  FlowCounts: what any packets make of a table of flows, one behind the other, and which are the heaviest ones. Conditions: none.
-/
import Derived.Test.YtljpiofpfankoaaFlAC
import Derived.Test.YtljpiofpfankoaaFrame
namespace Go.Proofs.Ytljpiofpfankoaa
open Go.ChangeShapes Go.WideShapes Go.ChangeAt Go.RowKit
set_option linter.unusedVariables false
set_option linter.unusedSimpArgs false
theorem hdr45list4 {α : Type} {l : List α} (h : l.length = 4) : ∃ a0 a1 a2 a3, l = [a0, a1, a2, a3] := by
  match l, h with
  | [a0, a1, a2, a3], _ => exact ⟨a0, a1, a2, a3, rfl⟩
theorem cells_hdr45 {H : Type} {w : World} {base : Nat} {spare : Nat → Bool} {held : Bool} {enc : TypeId × Value → H} {fuel : Nat} {c0 c1 c2 c3 : Value} {x : DataW H × List MemPlace} (hf : DataW.trod enc Try.prog w base spare held fuel 48 [c0, c1, c2, c3] = some x) :
    ∃ (x0 : Int) (x1 : Int) (x2 : Int) (x3 : Int), [c0, c1, c2, c3] = [.int .u16 x0, .int .u16 x1, .int .u16 x2, .int .u16 x3] ∧ (0 ≤ x0 ∧ x0 ≤ 65535) ∧ (0 ≤ x1 ∧ x1 ≤ 65535) ∧ (0 ≤ x2 ∧ x2 ≤ 65535) ∧ (0 ≤ x3 ∧ x3 ≤ 65535) := by
  have k0 : Try.prog.cellsOf 48 = 4 := by kernel_rfl
  have k1 : Try.prog.cellsOf 46 = 1 := by kernel_rfl
  obtain ⟨ys0, m0, _, _, _, hl0, hx0⟩ := DataW.trod_array Try.underlying48 hf
  obtain ⟨y0_0, y0_1, y0_2, y0_3, rfl⟩ := hdr45list4 hl0
  have q0_0 := hx0 0 (by simp)
  have q0_1 := hx0 1 (by simp)
  have q0_2 := hx0 2 (by simp)
  have q0_3 := hx0 3 (by simp)
  simp [k1] at q0_0 q0_1 q0_2 q0_3
  obtain ⟨x0, e0, _, w0⟩ := DataW.trod_int Try.underlying46 q0_0
  obtain ⟨x1, e1, _, w1⟩ := DataW.trod_int Try.underlying46 q0_1
  obtain ⟨x2, e2, _, w2⟩ := DataW.trod_int Try.underlying46 q0_2
  obtain ⟨x3, e3, _, w3⟩ := DataW.trod_int Try.underlying46 q0_3
  simp at e0 e1 e2 e3
  subst e0 e1 e2 e3
  exact ⟨x0, x1, x2, x3, rfl, bounds_u16 w0, bounds_u16 w1, bounds_u16 w2, bounds_u16 w3⟩
set_option maxRecDepth 100000 in
theorem open_hdr45 {H : Type} {w : World} {base : Nat} {spare : Nat → Bool} {held : Bool} {enc : TypeId × Value → H} {r : Reach} {b0 : Nat} {v : Value} {d : DataW H} {p : List MemPlace} (hv : Value.okWide Try.prog w r b0 48 v) (h : DataW.Trod enc Try.prog w base spare held 48 v d p) :
    ∃ (x0 : Int) (x1 : Int) (x2 : Int) (x3 : Int), v = .agg #[.int .u16 x0, .int .u16 x1, .int .u16 x2, .int .u16 x3] ∧ (0 ≤ x0 ∧ x0 ≤ 65535) ∧ (0 ≤ x1 ∧ x1 ≤ 65535) ∧ (0 ≤ x2 ∧ x2 ≤ 65535) ∧ (0 ≤ x3 ∧ x3 ≤ 65535) := by
  obtain ⟨cs, rfl, hsz⟩ := okWide_arr Try.underlying48 hv
  obtain ⟨l⟩ := cs
  obtain ⟨c0, c1, c2, c3, rfl⟩ := hdr45list4 (l := l) (hsz.trans (show Try.prog.cellsOf 48 = 4 by kernel_rfl))
  obtain ⟨fuel, hf⟩ := h
  obtain ⟨x0, x1, x2, x3, e, bs⟩ := cells_hdr45 (x := (d, p)) (show DataW.trod enc Try.prog w base spare held fuel 48 [c0, c1, c2, c3] = some (d, p) by simpa [Value.cells] using hf)
  simp at e
  obtain ⟨rfl, rfl, rfl, rfl⟩ := e
  exact ⟨x0, x1, x2, x3, rfl, bs⟩
theorem FlowCounts_walk (a : Option Addr) (len cap : Nat) (n : Int) (hn : -9223372036854775808 ≤ n ∧ n ≤ 9223372036854775807) (k0 : Int) (r0 : 0 ≤ k0 ∧ k0 ≤ 65535) (k1 : Int) (r1 : 0 ≤ k1 ∧ k1 ≤ 65535) (k2 : Int) (r2 : 0 ≤ k2 ∧ k2 ≤ 65535) (k3 : Int) (r3 : 0 ≤ k3 ∧ k3 ≤ 65535) (w : World) (h : Rows_seen45 w a len ∧ len ≤ maxLen) :
    Calls Try.prog 9 #[.slice a len cap, .int .i64 n, .agg #[.int .u16 k0, .int .u16 k1, .int .u16 k2, .int .u16 k3]] w fun e w' => e = .returned (.bool true) ∧ Below w.heap.size w w' := by
  by_cases h0 : 600 < len
  · exact FlowCounts_long a len cap n ⟨k0, k1, k2, k3⟩ w h0
  · obtain ⟨E, rfl, hE⟩ := seens_of h.1
    obtain ⟨b, off, q1, q2, q3⟩ := hE.at
    exact FlowCounts_main a b off cap E n ⟨k0, k1, k2, k3⟩ w q1 q2 q3 hE.2 (by omega) hn
namespace flowCountsDone
theorem own : ownKnob Try.prog.godebug = none := by kernel_rfl
theorem laidOut : laidOutB Try.prog = true := by kernel_rfl
set_option maxRecDepth 100000 in
theorem lifted (os : Os) (started : os.Started) (H : Type) (enc : TypeId × Value → H) :
    ReturnsInHanded {} Try.checked os 9 .any (Rows.flowCountsSpec.pre6 enc Try.prog Try.f9 Rows.flowCountsRow.domain false) (Rows.flowCountsSpec.post enc Try.prog Try.f9 false true false false) := by
  refine returnsInHanded_of_change (C := Try.checked) own started (by kernel_rfl) Try.func9
    (ChangeSpec.witness6 (enc := enc) (C := Try.checked) false ⟨#[], #[.slice none 0 0, .int .i64 0, .agg #[.int .u16 0, .int .u16 0, .int .u16 0, .int .u16 0]], []⟩ 8 (by kernel_rfl) (by kernel_rfl) (by kernel_rfl) (by kernel_rfl)) ?_
  intro W base args ds gs before hval0 hW hcnd _
  have hval : ∀ (j : Nat) t v, Try.f9.params[j]? = some t → args[j]? = some v → Value.okWide Try.prog W .any base t v := hval0
  have hW' := hW
  obtain ⟨p, q, hA0, hV, rfl, hfz, hnd⟩ := hW
  have hA : DataW.TrodAll enc Try.prog W 0 (fun _ => true) true Try.f9.params.toList args.toList ds p := hA0
  rw [Try.params9] at hA hval
  obtain ⟨v0, vs0, d0, ds0, p0, q0, hargs, rfl, rfl, h0, r0⟩ := trodAll_cons hA
  obtain ⟨v1, vs1, d1, ds1, p1, q1, rfl, rfl, rfl, h1, r1⟩ := trodAll_cons r0
  obtain ⟨v2, vs2, d2, ds2, p2, q2, rfl, rfl, rfl, h2, r2⟩ := trodAll_cons r1
  obtain ⟨rfl, rfl, rfl⟩ := trodAll_nil r2
  obtain rfl : args = #[v0, v1, v2] := by cases args; simp_all
  obtain ⟨rfl, rfl⟩ := trodVars_none hV
  obtain ⟨s0, len0, cap0, rfl⟩ := okWide_slice Try.underlying75 (hval 0 75 v0 rfl rfl)
  have k0 := h0
  have lt0 : ∀ x ∈ p0, x.block < W.heap.size := by obtain ⟨m, hm⟩ := k0; exact DataW.trod_lt m _ _ _ hm
  have w0 : Rows_seen45 W s0 len0 ∧ len0 ≤ maxLen := by obtain ⟨fuel, hf⟩ := h0; exact open_seen45s (by simpa [Value.cells] using hf)
  obtain ⟨a1, rfl, rfl, rfl, wf1⟩ := open_int Try.underlying3 (hval 1 3 v1 rfl rfl) h1
  have b1 := bounds_i64 wf1
  have k2 := h2
  have lt2 : ∀ x ∈ p2, x.block < W.heap.size := by obtain ⟨m, hm⟩ := k2; exact DataW.trod_lt m _ _ _ hm
  obtain ⟨a2_0, a2_1, a2_2, a2_3, rfl, b2_0, b2_1, b2_2, b2_3⟩ := open_hdr45 (hval 2 48 v2 rfl rfl) h2
  clear hA0 hval0
  refine (FlowCounts_walk s0 len0 cap0 a1 b1 a2_0 b2_0 a2_1 b2_1 a2_2 b2_2 a2_3 b2_3 W w0).mono fun e W' ⟨he, bel⟩ => ?_
  subst he
  exact ⟨_, rfl, _, _, _, [], _, [], hW', trodAll_mk1 (shut_bool Try.underlying4 _), (trodAll_cons_mk (Below.trod laidOut (by kernel_rfl) (of_decide_eq_true (by kernel_rfl)) k0 bel lt0) (trodAll_cons_mk (shut_int Try.underlying3 wf1) (trodAll_cons_mk (Below.trod laidOut (by kernel_rfl) (of_decide_eq_true (by kernel_rfl)) k2 bel lt2) trodAll_mk0))), rfl, bel.frame _, fun h => by cases h⟩
theorem over : Rows.flowCountsRow.holds Try.pinned (OpenSpec.ofChange Rows.flowCountsSpec) :=
  OpenClaim.holds_of_wide 9 Try.f9 rfl rfl rfl rfl rfl rfl rfl ⟨rfl, rfl, rfl, rfl, rfl⟩ rfl rfl rfl rfl rfl (by kernel_rfl) Try.func9 (by kernel_rfl)
    (of_decide_eq_true (by kernel_rfl)) (by unfold Func.isWrapper; first | (rw [if_pos (by decide +kernel)]; kernel_rfl) | (rw [if_neg (by decide +kernel)]; exact ⟨rfl, rfl⟩))
    (fun os started H enc _ => lifted os started H enc)
end flowCountsDone
theorem FlowCounts_holds : Rows.FlowCountsSaid := flowCountsDone.over

end Go.Proofs.Ytljpiofpfankoaa
