/-
  Plain laws of a class's virtual time: behind a meeting with a new beginning it is the greater one of that beginning and of what it was; of a linear curve it rises by the units over the slope; a limit's run lies below each beginning's. Conditions: a linear or concave curve, small beginnings.
-/
import Derived.Test.YtnkpoelljfbefaaRealM
namespace Go.Proofs.Ytnkpoelljfbefaa
open Go.RowKit
set_option linter.unusedVariables false
set_option linter.unusedSimpArgs false
def LN.time (l : LN) (W : Int) : Int := max (l.reach W) l.X
/-- The virtual time of a run at so many bytes. -/
def RN.time (r : RN) (p : Int) : Int := if r.b then max (max (r.reach (p * 65536)) r.t.X) r.f.X else max (r.reach (p * 65536)) r.t.X
theorem RN.time_eq (r : RN) (p : Int) : r.time p = if r.b then max (r.f.time (p * 65536)) (r.t.time (p * 65536)) else r.t.time (p * 65536) := by
  unfold RN.time RN.reach LN.time
  rcases r.b with _ | _
  · simp
  · simp only [if_true]; omega
theorem RN.time_rng {r : RN} (h : r.ok) (p : Int) : 0 ≤ r.time p ∧ r.time p ≤ 18446744073709551615 := by
  have h1 := RN.reach_rng h (p * 65536)
  have h2 := h.1.1; have h3 := h.2.1
  unfold RN.time
  split <;> omega
theorem LN.reach_mono {l : LN} (h : l.small) {W W' : Int} (h0 : 0 ≤ W) (hW : W ≤ W') : l.reach W ≤ l.reach W' := by
  have r1 := LN.reach_rng (LN.small_ok h) W
  have r2 := LN.reach_rng (LN.small_ok h) W'
  by_cases hn : l.reach W' = 9223372036854775808
  · omega
  · have i1 := LN.reach_iff (x := l.reach W') h (show 0 ≤ W' by omega) r2.1 (by omega)
    have i2 := LN.reach_iff (x := l.reach W') h h0 r2.1 (by omega)
    have := i1.1 (Int.le_refl _)
    exact i2.2 (by omega)
theorem RN.reach_mono {r : RN} (h : r.small) {W W' : Int} (h0 : 0 ≤ W) (hW : W ≤ W') : r.reach W ≤ r.reach W' := by
  have h1 := LN.reach_mono h.1 h0 hW
  have h2 := LN.reach_mono h.2 h0 hW
  unfold RN.reach
  split <;> omega
theorem RN.time_mono {r : RN} (h : r.small) {p q : Int} (h0 : 0 ≤ p) (hpq : p ≤ q) : r.time p ≤ r.time q := by
  have := RN.reach_mono h (W := p * 65536) (W' := q * 65536) (by omega) (by omega)
  unfold RN.time
  split <;> omega
theorem LN.time_new {s : LN} (h : s.small) {W : Int} (h0 : 0 ≤ W) (hW : W ≤ s.Y) (hX : s.X < 9223372036854775808) : s.time W = s.X := by
  have h1 := LN.reach_iff (x := s.X) h h0 h.2.1 hX
  rw [LN.at_lo (Int.le_refl _)] at h1
  have := h1.2 hW
  unfold LN.time; omega
theorem LN.low_time {l s : LN} (hl : l.small) (hs : s.small) (hX : l.X ≤ s.X) (hX' : s.X < 9223372036854775808) {W : Int} (h0 : 0 ≤ W) (hW : W ≤ s.Y) :
    (LN.low l s).time W = l.time W ∨ ((LN.low l s).time W = s.X ∧ l.time W ≤ s.X) := by
  unfold LN.low
  split
  · rename_i hlow
    right
    refine ⟨LN.time_new hs h0 hW hX', ?_⟩
    unfold LN.lowB Go.Proofs.Ytnkpoelljfbefaa.lowB at hlow
    have hlt := of_decide_eq_true hlow
    rw [show max l.X s.X = s.X by omega] at hlt
    have e := LN.at_lo (l := s) (Int.le_refl s.X)
    unfold LN.at at e
    rw [e] at hlt
    have := (LN.reach_iff (x := s.X) hl h0 hs.2.1 hX').2 (by unfold LN.at; omega)
    unfold LN.time; omega
  · exact .inl rfl
theorem LN.low_time_main {l s : LN} (hl : l.small) (hs : s.small) (hM : l.M = s.M) (hM0 : 0 < s.M) (hX : l.X ≤ s.X) (hX' : s.X < 9223372036854775808) {W : Int} (h0 : 0 ≤ W) (hW : W = s.Y) :
    (LN.low l s).time W = max (l.time W) s.X := by
  unfold LN.low
  split
  · rename_i hlow
    have h1 := LN.low_time hl hs hX hX' h0 (by omega)
    unfold LN.low at h1
    rw [if_pos hlow] at h1
    have h2 := LN.time_new hs h0 (by omega) hX'
    rcases h1 with h1 | h1 <;> omega
  · rename_i hlow
    have hge : ¬ (la s.X s.Y s.M (max l.X s.X) < la l.X l.Y l.M (max l.X s.X)) := by
      intro h; exact hlow (by unfold LN.lowB Go.Proofs.Ytnkpoelljfbefaa.lowB; exact decide_eq_true h)
    rw [show max l.X s.X = s.X by omega] at hge
    have e := LN.at_lo (l := s) (Int.le_refl s.X)
    unfold LN.at at e
    rw [e] at hge
    have key : s.X ≤ l.time W := by
      by_cases hc : s.X ≤ l.time W
      · exact hc
      · exfalso
        unfold LN.time at hc
        have hx := (LN.reach_iff (x := s.X - 1) hl h0 (by have := hl.2.1; omega) (by omega)).1 (by omega)
        have hm := la_more (X := l.X) (Y := l.Y) (M := l.M) (x := s.X - 1) (y := s.X) hl.1 hl.2.1 (by omega) (by omega) (by omega)
        unfold LN.at at hx
        rw [show s.X - (s.X - 1) = 1 by omega, Int.mul_one] at hm
        omega
    omega
/-- A curve that is linear or concave. -/
def Lin (m d n : Int) : Prop := kd m d n = 2 ∨ kd m d n = 3
theorem Lin.cin {m d n : Int} (h : Lin m d n) (hm : 0 ≤ m) (hd : 0 ≤ d) (hn : 0 ≤ n) : CIn m d n := CIn.of hm hd hn (by rcases h with h | h <;> omega)
theorem Lin.not4 {m d n : Int} (h : Lin m d n) : kd m d n ≠ 4 := by rcases h with h | h <;> omega
theorem kd_2_pos {m d n : Int} (h : kd m d n = 2) (hm : 0 ≤ m) : 0 < n := by unfold kd at h; (repeat' split at h) <;> omega
theorem start_2 {m d n x y : Int} (h : kd m d n = 2) : RN.start m d n x y = ⟨LN.zero, ⟨x, y, n⟩, false⟩ := by
  unfold RN.start; rw [if_neg (by omega)]; unfold RN.ready; rw [if_pos (.inl h)]
theorem start_3 {m d n x y : Int} (h : kd m d n = 3) : RN.start m d n x y = ⟨⟨x, y, m⟩, ⟨x, m128 (y + (m - n) * d), n⟩, true⟩ := by
  unfold RN.start; rw [if_neg (by omega)]; unfold RN.ready; rw [if_neg (by omega), if_pos h]
theorem lin_begun {m d n x y t : Int} (h : Lin m d n) (hx : x ≤ t) : (RN.start m d n x y).begun t := by
  rcases h with h | h
  · rw [start_2 h]; exact ⟨fun hb => by simp at hb, hx⟩
  · rw [start_3 h]; exact ⟨fun _ => hx, hx⟩
theorem start_time {m d n x p : Int} (h : Lin m d n) (hc : CIn m d n) (hf : FIn x (p * 65536)) : (RN.start m d n x (p * 65536)).time p = x := by
  have hs := start_small hc hf
  have hf1 := hf.1
  rw [RN.time_eq]
  rcases h with h | h
  · rw [start_2 h] at hs ⊢
    simp only [Bool.false_eq_true, if_false]
    exact LN.time_new hs.2 hf.2.1 (Int.le_refl _) hf1.2
  · have hk := kd_3 h
    have ha := above_of hc hf (by omega : n ≤ m)
    have hp := prod_in hc (by omega : n ≤ m)
    rw [start_3 h] at hs ⊢
    simp only [if_true]
    rw [LN.time_new hs.1 hf.2.1 (Int.le_refl _) hf1.2, LN.time_new hs.2 hf.2.1 (by simp only []; rw [ha]; omega) hf1.2]
    simp
/-- What is kept of a class's run: small, of the curve's lines, begun at the last wake. -/
def Kept (m d n low : Int) (r : RN) : Prop := r.small ∧ r.alike (RN.start m d n 0 0) ∧ r.begun low
theorem Kept.one {m d n low p : Int} (h : Lin m d n) (hc : CIn m d n) (hf : FIn low (p * 65536)) : Kept m d n low (RN.start m d n low (p * 65536)) :=
  ⟨start_small hc hf, start_alike .., lin_begun h (Int.le_refl _)⟩
theorem Kept.later {m d n low low' : Int} {r : RN} (h : Kept m d n low r) (hl : low ≤ low') : Kept m d n low' r :=
  ⟨h.1, h.2.1, fun hb => by have := h.2.2.1 hb; omega, by have := h.2.2.2; omega⟩
theorem Kept.meet {m d n low p : Int} {r : RN} (h : Lin m d n) (hc : CIn m d n) (hf : FIn low (p * 65536)) (hr : Kept m d n low r) : Kept m d n low (RN.meet r (RN.start m d n low (p * 65536))) :=
  ⟨RN.meet_small hr.1 (start_small hc hf), meet_alike hr.2.1 (start_alike ..), meet_begun (alike_trans hr.2.1 (alike_symm (start_alike ..))) hr.2.2 (lin_begun h (Int.le_refl _))⟩
/-- Behind a wake the virtual time is the greater one of the wake's, and of what it was. -/
theorem Kept.time {m d n low p : Int} {r : RN} (h : Lin m d n) (hc : CIn m d n) (hf : FIn low (p * 65536)) (hr : Kept m d n low r) : (RN.meet r (RN.start m d n low (p * 65536))).time p = max low (r.time p) := by
  obtain ⟨h1, h2, h3⟩ := hr
  have hs := start_small hc hf
  have hf1 := hf.1
  rw [RN.time_eq, RN.time_eq r]
  rcases h with h | h
  · rw [start_2 h] at hs ⊢
    rw [start_2 h] at h2
    have hb : r.b = false := h2.1
    have hM : r.t.M = n := h2.2.2
    unfold RN.meet
    simp only [hb, Bool.false_eq_true, if_false]
    have := LN.low_time_main (l := r.t) (s := ⟨low, p * 65536, n⟩) (W := p * 65536) h1.2 hs.2 hM (by simp only []; exact kd_2_pos h hc.2.1.1) h3.2 hf1.2 hf.2.1 rfl
    simp only [] at this
    omega
  · have hk := kd_3 h
    have ha := above_of hc hf (by omega : n ≤ m)
    have hp := prod_in hc (by omega : n ≤ m)
    rw [start_3 h] at hs ⊢
    rw [start_3 h] at h2
    have hb : r.b = true := h2.1
    have hM : r.f.M = m := h2.2.1 hb
    have hM2 : r.t.M = n := h2.2.2
    unfold RN.meet
    simp only [hb, if_true]
    have e1 := LN.low_time_main (l := r.f) (s := ⟨low, p * 65536, m⟩) (W := p * 65536) h1.1 hs.1 hM (by simp only []; have := hc.2.2.2.1; omega) (h3.1 hb) hf1.2 hf.2.1 rfl
    have e2 := LN.low_time (l := r.t) (s := ⟨low, m128 (p * 65536 + (m - n) * d), n⟩) (W := p * 65536) h1.2 hs.2 h3.2 hf1.2 hf.2.1 (by simp only []; rw [ha]; omega)
    simp only [] at e1 e2
    rcases e2 with e2 | e2 <;> omega
/-! Of a linear curve. -/
theorem LN.time_steps {l : LN} (h : l.small) {W : Int} (h0 : 0 ≤ l.Y) (hW : l.Y ≤ W) (hT : l.time W < 9223372036854775808) (hM : 0 < l.M) :
    l.X ≤ l.time W ∧ W ≤ l.Y + l.M * (l.time W - l.X) ∧ l.Y + l.M * (l.time W - l.X) < W + l.M := by
  have hX : l.X ≤ l.time W := by unfold LN.time; omega
  have hR : l.reach W ≤ l.time W := by unfold LN.time; omega
  have hX0 := h.2.1
  have e := LN.at_from h hX (by omega)
  have i1 := (LN.reach_iff (x := l.time W) h (by omega) (by omega) hT).1 hR
  refine ⟨hX, by rw [← e]; exact i1, ?_⟩
  by_cases hx : l.time W = l.X
  · rw [hx, show l.X - l.X = 0 by omega, Int.mul_zero]; omega
  · have hr : l.time W = l.reach W := by unfold LN.time at *; omega
    have i2 := LN.reach_iff (x := l.time W - 1) h (show 0 ≤ W by omega) (by omega) (by omega)
    have e2 := LN.at_from h (x := l.time W - 1) (by omega) (by omega)
    have hlt : l.at (l.time W - 1) < W := by
      by_cases hc : W ≤ l.at (l.time W - 1)
      · have := i2.2 hc; omega
      · omega
    rw [e2, show l.time W - 1 - l.X = (l.time W - l.X) - 1 by omega, Int.mul_sub, Int.mul_one] at hlt
    omega
theorem LN.time_lt {l : LN} (h : l.small) {W : Int} (h0 : 0 ≤ W) (hM : 0 < l.M) (hX : l.X ≤ 4611686018427387904) (hW : W ≤ l.Y + 288230376151711744) : l.time W ≤ 4899916394579099648 := by
  have i := LN.reach_iff (x := 4899916394579099648) h h0 (by omega) (by omega)
  have e := LN.at_from h (x := 4899916394579099648) (by omega) (by omega)
  have hm : 1 * (4899916394579099648 - l.X) ≤ l.M * (4899916394579099648 - l.X) := Int.mul_le_mul_of_nonneg_right (by omega) (by omega)
  have := i.2 (by rw [e]; omega)
  unfold LN.time; omega
theorem steps_plain {M low p q s : Int} (hM : 1 ≤ M ∧ M ≤ 4294967295) (hl : 0 ≤ low ∧ low ≤ 4611686018427387904) (hp : 0 ≤ p ∧ p ≤ 1099511627776) (hq : 0 ≤ q ∧ q ≤ 1099511627776) (hs : 0 ≤ s ∧ s ≤ 4294967296) :
    let r := RN.start M 0 M low (p * 65536)
    r.time (p + q) ≤ r.time (p + q + s) ∧ r.time (p + q + s) ≤ 4899916394579099648 ∧ 0 ≤ r.time (p + q) ∧ (r.time (p + q + s) - r.time (p + q)) * M < s * 65536 + M ∧ s * 65536 < (r.time (p + q + s) - r.time (p + q)) * M + M := by
  intro r
  have hk : kd M 0 M = 2 := by unfold kd; (repeat' split) <;> omega
  have e : r = ⟨LN.zero, ⟨low, p * 65536, M⟩, false⟩ := start_2 hk
  have hsm : LN.small ⟨low, p * 65536, M⟩ := small_mk (by omega) (by omega) (by omega)
  have t1 : r.time (p + q) = LN.time ⟨low, p * 65536, M⟩ ((p + q) * 65536) := by rw [RN.time_eq, e]; simp
  have t2 : r.time (p + q + s) = LN.time ⟨low, p * 65536, M⟩ ((p + q + s) * 65536) := by rw [RN.time_eq, e]; simp
  have b1 := LN.time_lt (W := (p + q) * 65536) hsm (by omega) (by simp only []; omega) hl.2 (by simp only []; omega)
  have b2 := LN.time_lt (W := (p + q + s) * 65536) hsm (by omega) (by simp only []; omega) hl.2 (by simp only []; omega)
  have s1 := LN.time_steps (W := (p + q) * 65536) hsm (by simp only []; omega) (by simp only []; omega) (by omega) (by simp only []; omega)
  have s2 := LN.time_steps (W := (p + q + s) * 65536) hsm (by simp only []; omega) (by simp only []; omega) (by omega) (by simp only []; omega)
  have mo : r.time (p + q) ≤ r.time (p + q + s) := RN.time_mono (by rw [e]; exact ⟨zero_small, hsm⟩) (by omega) (by omega)
  rw [← t1] at b1 s1
  rw [← t2] at b2 s2
  generalize r.time (p + q) = a at *
  generalize r.time (p + q + s) = b at *
  simp only [] at s1 s2
  obtain ⟨x1, y1, z1⟩ := s1
  obtain ⟨x2, y2, z2⟩ := s2
  have f : (b - a) * M = M * (b - low) - M * (a - low) := by rw [← Int.mul_sub, Int.mul_comm]; congr 1; omega
  refine ⟨mo, b2, by omega, ?_, ?_⟩ <;> rw [f] <;> omega
/-! A limit's run lies at any tick below each wake's. -/
def Under (m d n x : Int) (ws : List WN) (r : RN) : Prop := ∀ v ∈ ws, ∀ t, x ≤ t → t ≤ 9223372036854775807 → r.at t ≤ v.p * 65536 + sv m d n (t - v.at_)
theorem Under.one {m d n : Int} (h : Lin m d n) (hc : CIn m d n) {v : WN} (hv : v.ok) : Under m d n v.at_ [v] (v.start m d n) := by
  intro u hu t h1 h2
  rw [List.mem_singleton] at hu
  subst hu
  have hv' := hv
  unfold WN.ok FIn at hv'
  have := start_serves (t := t - u.at_) hc hv (by omega)
  rw [show u.at_ + (t - u.at_) = t by omega] at this
  unfold WN.start
  omega
theorem Under.later {m d n x y : Int} {ws : List WN} {r : RN} (h : Under m d n x ws r) (hy : x ≤ y) : Under m d n y ws r := fun v hv t h1 h2 => h v hv t (by omega) h2
theorem Under.meet {m d n : Int} (h : Lin m d n) (hc : CIn m d n) {ws : List WN} {r : RN} {v : WN} (hv : v.ok) (hr : Kept m d n v.at_ r) (hu : Under m d n v.at_ ws r) : Under m d n v.at_ (ws ++ [v]) (RN.meet r (v.start m d n)) := by
  intro u hmem t h1 h2
  have hm := RN.meet_at hr.1 (start_small hc hv) (alike_trans hr.2.1 (alike_symm (start_alike ..))) (x := t) (by exact ⟨fun hb => by have := hr.2.2.1 hb; omega, by have := hr.2.2.2; omega⟩) (lin_begun h h1) (by omega)
  unfold WN.start
  rw [hm]
  rcases List.mem_append.1 hmem with hmem | hmem
  · have := hu u hmem t h1 h2
    omega
  · have := Under.one h hc hv u hmem t h1 h2
    unfold WN.start at this
    omega
/-- At a tick from which it fits a class has, since each wake, no more than the service. -/
theorem Under.fits {m d n x : Int} {ws : List WN} {r : RN} (hr : r.small) (hu : Under m d n x ws r) {T t : Int} (h0 : 0 ≤ T) (hx : x ≤ t) (ht : 0 ≤ t ∧ t < 9223372036854775807) (hfit : r.reach (T * 65536) ≤ t) : ∀ v ∈ ws, (T - v.p) * 65536 ≤ sv m d n (t - v.at_) := by
  intro v hv
  have h1 := (RN.reach_iff hr (by omega) ht.1 (by omega)).1 hfit
  have h2 := hu v hv t hx (by omega)
  omega
end Go.Proofs.Ytnkpoelljfbefaa
