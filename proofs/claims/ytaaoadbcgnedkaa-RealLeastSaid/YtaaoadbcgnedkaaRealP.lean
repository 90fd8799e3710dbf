/-
  A leaf's story in plain numbers: what calls make of a leaf, and what holds of it behind a first wake. Conditions: a curve that may be, few calls.
-/
import Derived.Test.YtaaoadbcgnedkaaReal
import Derived.Test.YtaaoadbcgnedkaaRealM
namespace Go.Proofs.Ytaaoadbcgnedkaa
open Go.RowKit
set_option linter.unusedVariables false
set_option linter.unusedSimpArgs false
/-- A call: its kind, its tick, its bytes, its head. -/
structure CL where
  (k x s h : Int)
def CL.ok (c : CL) : Prop := (-9223372036854775808 ≤ c.k ∧ c.k ≤ 9223372036854775807) ∧ (0 ≤ c.x ∧ c.x ≤ 18446744073709551615) ∧ (-9223372036854775808 ≤ c.s ∧ c.s ≤ 9223372036854775807) ∧ (-9223372036854775808 ≤ c.h ∧ c.h ≤ 9223372036854775807)
/-- How many bytes a call takes. -/
def sentR (s : Int) : Int := (s.tmod 16384 + 16384).tmod 16384 + 1
theorem sentR_rng (s : Int) : 1 ≤ sentR s ∧ sentR s ≤ 16384 := by
  unfold sentR
  have h := Int.tmod_lt_of_pos s (show (0 : Int) < 16384 by decide)
  have h' : -16384 < s.tmod 16384 := by
    have := Int.tmod_lt_of_pos (-s) (show (0 : Int) < 16384 by decide)
    rw [Int.neg_tmod] at this; omega
  rw [Int.tmod_eq_emod_of_nonneg (by omega)]
  omega
/-- A leaf behind calls: its dues, its wakes, the tick. -/
structure ST where
  (l : LF)
  (ws : List WN)
  (now : Int)
def LF.zero : LF := ⟨false, ⟨⟨0, 0, 0⟩, ⟨0, 0, 0⟩, false⟩, ⟨⟨0, 0, 0⟩, ⟨0, 0, 0⟩, false⟩, 0, 0, 0⟩
def ST0 : ST := ⟨LF.zero, [], 0⟩
def stepR (m d n : Int) (st : ST) (c : CL) : ST :=
  if c.k = 0 then ⟨(st.l.woke m d n (st.now + c.x % 1099511627776)).headed c.h, st.ws ++ [⟨st.now + c.x % 1099511627776, st.l.p⟩], st.now + c.x % 1099511627776⟩
  else if c.k = 1 then ⟨st.l.took (sentR c.s) c.h, st.ws, st.now + c.x % 1099511627776⟩
  else ⟨st.l.headed c.h, st.ws, st.now + c.x % 1099511627776⟩
def storyR (m d n : Int) (L : List CL) : ST := L.foldl (stepR m d n) ST0
theorem headed_same (l : LF) (h : Int) : (l.headed h).has = l.has ∧ (l.headed h).D = l.D ∧ (l.headed h).E = l.E ∧ (l.headed h).p = l.p := by
  unfold LF.headed; split <;> exact ⟨rfl, rfl, rfl, rfl⟩
/-- What holds of a leaf behind k calls, of which the first one was a wake. -/
def SI (m d n : Int) (k : Int) (st : ST) : Prop :=
  st.l.has = true ∧ Pair m d n st.l.D st.l.E ∧ FromW m d n st.ws st.l.D ∧ (∃ w0 r, st.ws = w0 :: r ∧ st.l.D = dls m d n w0 r) ∧
  (∀ v ∈ st.ws, v.ok ∧ (0 ≤ v.p ∧ v.p ≤ st.l.p) ∧ (0 ≤ v.at_ ∧ v.at_ ≤ st.now)) ∧ (0 ≤ st.l.p ∧ st.l.p ≤ k * 16384) ∧ (0 ≤ st.now ∧ st.now ≤ k * 1099511627776)
section
variable {m d n k : Int} {st : ST} {c : CL}
theorem wn_ok {t p : Int} (ht : 0 ≤ t ∧ t ≤ 9223372036854775807) (hp : 0 ≤ p ∧ p ≤ 100000000) : WN.ok ⟨t, p⟩ := by
  unfold WN.ok FIn; simp only []; omega
theorem SI.wake (hc : CIn m d n) (h : SI m d n k st) (hk : k ≤ 64) (x hd : Int) (hx : 0 ≤ x ∧ x < 1099511627776) :
    SI m d n (k + 1) ⟨(st.l.woke m d n (st.now + x)).headed hd, st.ws ++ [⟨st.now + x, st.l.p⟩], st.now + x⟩ := by
  obtain ⟨h1, h2, h3, ⟨w0, r, h4, h5⟩, h6, h7, h8⟩ := h
  have hv : WN.ok ⟨st.now + x, st.l.p⟩ := wn_ok (by omega) (by omega)
  obtain ⟨e1, e2, e3, e4⟩ := headed_same (st.l.woke m d n (st.now + x)) hd
  have eD : (st.l.woke m d n (st.now + x)).D = RN.meet st.l.D (WN.start m d n ⟨st.now + x, st.l.p⟩) := by unfold LF.woke; simp only [h1, if_true]; rfl
  have eE : (st.l.woke m d n (st.now + x)).E = RN.meet st.l.E (WN.ready m d n ⟨st.now + x, st.l.p⟩) := by unfold LF.woke; simp only [h1, if_true]; rfl
  refine ⟨e1.trans rfl, ?_, ?_, ⟨w0, r ++ [⟨st.now + x, st.l.p⟩], ?_, ?_⟩, ?_, ?_, ?_⟩
  · show Pair m d n (LF.headed _ hd).D (LF.headed _ hd).E
    rw [e2, e3, eD, eE]; exact h2.meet hc _ hv
  · show FromW m d n _ (LF.headed _ hd).D
    rw [e2, eD]; exact h3.meet hc hv
  · simp [h4]
  · show (LF.headed _ hd).D = _
    rw [e2, eD, dls_snoc, h5]
  · intro v hv'
    show v.ok ∧ (0 ≤ v.p ∧ v.p ≤ (LF.headed _ hd).p) ∧ (0 ≤ v.at_ ∧ v.at_ ≤ st.now + x)
    rw [e4]
    show v.ok ∧ (0 ≤ v.p ∧ v.p ≤ st.l.p) ∧ _
    rcases List.mem_append.1 hv' with hv' | hv'
    · have := h6 v hv'; exact ⟨this.1, this.2.1, this.2.2.1, by omega⟩
    · simp at hv'; subst hv'; exact ⟨hv, ⟨h7.1, Int.le_refl _⟩, by simp only []; omega, Int.le_refl _⟩
  · show 0 ≤ (LF.headed _ hd).p ∧ (LF.headed _ hd).p ≤ _
    rw [e4]
    show 0 ≤ st.l.p ∧ st.l.p ≤ _
    omega
  · show 0 ≤ st.now + x ∧ st.now + x ≤ (k + 1) * 1099511627776
    omega
theorem SI.first (hc : CIn m d n) : SI m d n 1 (stepR m d n ST0 ⟨0, 0, 0, 0⟩) := by
  have hv : WN.ok ⟨0, 0⟩ := wn_ok (by omega) (by omega)
  have e : stepR m d n ST0 ⟨0, 0, 0, 0⟩ = ⟨(LF.zero.woke m d n 0).headed 0, [⟨0, 0⟩], 0⟩ := rfl
  rw [e]
  obtain ⟨e1, e2, e3, e4⟩ := headed_same (LF.zero.woke m d n 0) 0
  have eD : (LF.zero.woke m d n 0).D = WN.start m d n ⟨0, 0⟩ := rfl
  have eE : (LF.zero.woke m d n 0).E = WN.ready m d n ⟨0, 0⟩ := rfl
  refine ⟨e1.trans rfl, ?_, ?_, ⟨⟨0, 0⟩, [], rfl, ?_⟩, ?_, ?_, ?_⟩
  · show Pair m d n (LF.headed _ 0).D (LF.headed _ 0).E
    rw [e2, e3, eD, eE]; exact Pair.one hc _ hv
  · show FromW m d n _ (LF.headed _ 0).D
    rw [e2, eD]; exact FromW.one hc hv
  · show (LF.headed _ 0).D = _
    rw [e2, eD]; rfl
  · intro v hv'
    simp at hv'; subst hv'
    refine ⟨hv, ⟨Int.le_refl _, ?_⟩, Int.le_refl _, Int.le_refl _⟩
    show 0 ≤ (LF.headed _ 0).p
    rw [e4]; exact Int.le_refl _
  · show 0 ≤ (LF.headed _ 0).p ∧ (LF.headed _ 0).p ≤ _
    rw [e4]; show (0 : Int) ≤ 0 ∧ (0 : Int) ≤ _; omega
  · show (0 : Int) ≤ 0 ∧ (0 : Int) ≤ _; omega
theorem SI.same (h : SI m d n k st) (hk : k ≤ 64) (x p : Int) (hx : 0 ≤ x ∧ x < 1099511627776) {l : LF} (h1 : l.has = st.l.has) (h2 : l.D = st.l.D) (h3 : l.E = st.l.E) (h4 : l.p = st.l.p + p) (hp : 0 ≤ p ∧ p ≤ 16384) :
    SI m d n (k + 1) ⟨l, st.ws, st.now + x⟩ := by
  obtain ⟨g1, g2, g3, g4, g6, g7, g8⟩ := h
  unfold SI
  rw [h1, h2, h3, h4]
  refine ⟨g1, g2, g3, g4, fun v hv => ?_, by omega, by show 0 ≤ st.now + x ∧ st.now + x ≤ (k + 1) * 1099511627776; omega⟩
  have := g6 v hv
  exact ⟨this.1, ⟨this.2.1.1, by omega⟩, this.2.2.1, by show v.at_ ≤ st.now + x; omega⟩
theorem took_same (l : LF) (s h : Int) (hp : 0 ≤ l.p ∧ l.p ≤ 100000000) (hs : 0 ≤ s ∧ s ≤ 16384) : (l.took s h).has = l.has ∧ (l.took s h).D = l.D ∧ (l.took s h).E = l.E ∧ (l.took s h).p = l.p + s := by
  unfold LF.took
  obtain ⟨e1, e2, e3, e4⟩ := headed_same ⟨l.has, l.D, l.E, IntKind.u64.wrap (l.p + max s 0), l.e, l.t⟩ h
  refine ⟨e1, e2, e3, e4.trans ?_⟩
  show IntKind.u64.wrap (l.p + max s 0) = _
  rw [show max s 0 = s by omega]
  exact IntWalk.u64_in _ ⟨by omega, by omega⟩
theorem SI.step (hc : CIn m d n) (h : SI m d n k st) (hk : k ≤ 64) (c : CL) : SI m d n (k + 1) (stepR m d n st c) := by
  have hx : 0 ≤ c.x % 1099511627776 ∧ c.x % 1099511627776 < 1099511627776 := by omega
  have h7 := h.2.2.2.2.2.1
  unfold stepR
  split
  · exact h.wake hc hk _ _ hx
  split
  · have hs := sentR_rng c.s
    obtain ⟨e1, e2, e3, e4⟩ := took_same st.l (sentR c.s) c.h (by omega) (by omega)
    exact h.same hk _ (sentR c.s) hx e1 e2 e3 e4 (by omega)
  · obtain ⟨e1, e2, e3, e4⟩ := headed_same st.l c.h
    exact h.same hk _ 0 hx e1 e2 e3 (e4.trans (Int.add_zero _).symm) (by omega)
theorem SI.steps (hc : CIn m d n) : ∀ (L : List CL) (k : Int) (st : ST), k + L.length ≤ 64 → SI m d n k st → SI m d n (k + L.length) (L.foldl (stepR m d n) st)
  | [], k, st, _, h => by simpa using h
  | c :: L, k, st, hk, h => by
    simp at hk
    have := SI.steps hc L (k + 1) (stepR m d n st c) (by omega) (h.step hc (by omega) c)
    rw [show k + 1 + (L.length : Int) = k + ((c :: L).length : Nat) by simp; omega] at this
    exact this
theorem story_SI (hc : CIn m d n) (L : List CL) (hL : L.length ≤ 62) : SI m d n (1 + L.length) (storyR m d n (⟨0, 0, 0, 0⟩ :: L)) :=
  SI.steps hc L 1 _ (by omega) (SI.first hc)
theorem storyR_snoc (L : List CL) (c : CL) : storyR m d n (L ++ [c]) = stepR m d n (storyR m d n L) c := by unfold storyR; rw [List.foldl_append]; rfl
/-- A leaf is eligible no later than at its deadline. -/
theorem SI.elig (hc : CIn m d n) (h : SI m d n k st) (hk : k ≤ 64) {hd : Int} (h1 : 1 ≤ hd) (h2 : hd ≤ 16384) : (st.l.headed hd).e ≤ (st.l.headed hd).t := by
  obtain ⟨g1, g2, g3, g4, g6, g7, g8⟩ := h
  unfold LF.headed
  rw [if_pos (by omega)]
  show st.l.E.reach _ ≤ st.l.D.reach _
  rw [IntWalk.u64_in _ ⟨by omega, by omega⟩]
  exact g2.elig hc (by omega) (by omega)
theorem headed_t (l : LF) {hd : Int} (ol : l.ok) : (l.headed hd).t ≤ 9223372036854775808 := by
  unfold LF.headed
  split
  · exact (RN.reach_rng ol.1 _).2
  · exact Int.le_refl _
end
end Go.Proofs.Ytaaoadbcgnedkaa
