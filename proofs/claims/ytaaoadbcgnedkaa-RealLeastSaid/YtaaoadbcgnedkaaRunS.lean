/-
  Plain laws of curves that run: from its beginning on a run is the curve's service; the meeting of two runs of one curve; what makes a leaf eligible early enough. Conditions: fields in range, amounts below 2^94.
-/
import Derived.Test.YtaaoadbcgnedkaaRunM
namespace Go.Proofs.Ytaaoadbcgnedkaa
open Go.RowKit
set_option linter.unusedVariables false
set_option linter.unusedSimpArgs false
theorem kd_1 {m d n : Int} (hm : 0 ≤ m) (hd : 0 ≤ d) (hn : 0 ≤ n) (h : kd m d n = 1) : m = 0 ∧ d = 0 ∧ n = 0 := by unfold kd at h; (repeat' split at h) <;> omega
theorem kd_2 {m d n : Int} (h : kd m d n = 2) : d = 0 ∧ m = n := by unfold kd at h; (repeat' split at h) <;> omega
theorem kd_3 {m d n : Int} (h : kd m d n = 3) : 0 < d ∧ n < m := by unfold kd at h; (repeat' split at h) <;> omega
theorem kd_4 {m d n : Int} (h : kd m d n = 4) : 0 < d ∧ m = 0 ∧ 0 < n := by unfold kd at h; (repeat' split at h) <;> omega
/-- A curve that may be: its fields. -/
def CIn (m d n : Int) : Prop := kd m d n ≠ 0 ∧ (0 ≤ m ∧ m ≤ 4294967295) ∧ (0 ≤ d ∧ d ≤ 1048576) ∧ (0 ≤ n ∧ n ≤ 4294967295)
theorem CIn.of {m d n : Int} (hm : 0 ≤ m) (hd : 0 ≤ d) (hn : 0 ≤ n) (h : kd m d n ≠ 0) : CIn m d n := by
  have := kd_in h; exact ⟨h, by omega, by omega, by omega⟩
/-- A beginning that is small. -/
def FIn (x y : Int) : Prop := (0 ≤ x ∧ x < 9223372036854775808) ∧ (0 ≤ y ∧ y < 19807040628566084398385987584)
theorem small_mk {X Y M : Int} (h1 : 0 ≤ Y ∧ Y < 1267650600228229401496703205376) (h2 : 0 ≤ M ∧ M < 68719476736) (h3 : 0 ≤ X ∧ X ≤ 18446744073709551615) : LN.small ⟨X, Y, M⟩ := ⟨⟨h1, h2⟩, h3⟩
theorem zero_small : LN.zero.small := small_mk (by omega) (by omega) (by omega)
theorem prod_in {m d n : Int} (hc : CIn m d n) (h : n ≤ m) : 0 ≤ (m - n) * d ∧ (m - n) * d ≤ 4503599626321920 := by
  obtain ⟨_, hm, hd, hn⟩ := hc
  refine ⟨Int.mul_nonneg (by omega) hd.1, ?_⟩
  have := Int.mul_le_mul (show m - n ≤ 4294967295 by omega) hd.2 hd.1 (by omega)
  omega
theorem above_of {m d n x y : Int} (hc : CIn m d n) (hf : FIn x y) (h : n ≤ m) : m128 (y + (m - n) * d) = y + (m - n) * d := by
  have := prod_in hc h; unfold FIn at hf
  exact m128_of (by unfold In128; omega)
theorem ready_small {m d n x y : Int} (hc : CIn m d n) (hf : FIn x y) : (RN.ready m d n x y).small := by
  have hc' := hc
  obtain ⟨_, hm, hd, hn⟩ := hc'
  have hf' := hf
  unfold FIn at hf'
  unfold RN.ready
  split
  · exact ⟨zero_small, small_mk (by omega) (by omega) (by omega)⟩
  · split
    · rename_i h
      have h3 := (kd_3 h).2
      have hp := prod_in hc (by omega)
      rw [above_of hc hf (by omega)]
      exact ⟨small_mk (by omega) (by omega) (by omega), small_mk (by omega) (by omega) (by omega)⟩
    · exact ⟨zero_small, small_mk (by omega) (by omega) (by omega)⟩
theorem start_small {m d n x y : Int} (hc : CIn m d n) (hf : FIn x y) : (RN.start m d n x y).small := by
  unfold RN.start
  split
  · obtain ⟨_, hm, hd, hn⟩ := hc
    unfold FIn at hf
    exact ⟨zero_small, small_mk (by omega) (by omega) (by omega)⟩
  · exact ready_small hc hf
theorem LN.at_lo {l : LN} {x : Int} (h : x ≤ l.X) : l.at x = l.Y := by unfold LN.at la; rw [if_pos h]
theorem LN.at_from {l : LN} (h : l.small) {x : Int} (h1 : l.X ≤ x) (h2 : x ≤ 18446744073709551615) : l.at x = l.Y + l.M * (x - l.X) := la_from h.1 h.2.1 h2 h1
theorem RN.at_t {r : RN} (h : r.b = false) (x : Int) : r.at x = r.t.at x := by unfold RN.at; simp [h]
theorem RN.at_le_t (r : RN) (x : Int) : r.at x ≤ r.t.at x := by unfold RN.at; (repeat' split) <;> omega
theorem RN.at_le_f (r : RN) (h : r.b = true) (x : Int) : r.at x ≤ r.f.at x := by unfold RN.at; simp only [h, if_true]; split <;> omega
/-- From its beginning on a run is the curve's service. -/
theorem start_serves {m d n x y t : Int} (hc : CIn m d n) (hf : FIn x y) (ht : 0 ≤ t ∧ t ≤ 9223372036854775807) : (RN.start m d n x y).at (x + t) = y + sv m d n t := by
  have hs := start_small hc hf
  have hc' := hc
  obtain ⟨hk, hm, hd, hn⟩ := hc'
  have hf' := hf
  unfold FIn at hf'
  unfold RN.start at hs ⊢
  by_cases h4 : kd m d n = 4
  · rw [if_pos h4] at hs ⊢
    obtain ⟨h1, rfl, h3⟩ := kd_4 h4
    rw [RN.at_t rfl]
    unfold sv
    split
    · rw [LN.at_lo (by simp only []; omega)]; simp only []; omega
    · rw [LN.at_from hs.2 (by simp only []; omega) (by omega)]
      simp only []
      rw [show x + t - (x + d) = t - d by omega]; omega
  rw [if_neg h4] at hs ⊢
  unfold RN.ready at hs ⊢
  by_cases h3 : kd m d n = 3
  · rw [if_neg (by omega), if_pos h3] at hs ⊢
    have hp := kd_3 h3
    have e1 := LN.at_from (x := x + t) hs.1 (by simp only []; omega) (by omega)
    have e2 := LN.at_from (x := x + t) hs.2 (by simp only []; omega) (by omega)
    simp only [above_of hc hf (show n ≤ m by omega), show x + t - x = t by omega] at e1 e2
    unfold RN.at
    simp only [if_true, above_of hc hf (show n ≤ m by omega)]
    rw [e1, e2, sv_min]
    have q : m * t = n * t + (m - n) * t := by rw [Int.sub_mul]; omega
    rcases Int.le_total t d with h | h
    · have := Int.mul_le_mul_of_nonneg_left h (show 0 ≤ m - n by omega)
      rw [Int.min_eq_left h]
      split <;> omega
    · have := Int.mul_le_mul_of_nonneg_left h (show 0 ≤ m - n by omega)
      rw [Int.min_eq_right h]
      split <;> omega
  · have hlin : sv m d n t = n * t := by
      have : kd m d n = 1 ∨ kd m d n = 2 := by have := kd_rng m d n; omega
      rw [sv_min]
      rcases this with h | h
      · obtain ⟨rfl, rfl, rfl⟩ := kd_1 hm.1 hd.1 hn.1 h; simp
      · obtain ⟨rfl, rfl⟩ := kd_2 h; simp
    rw [hlin]
    by_cases h2 : kd m d n = 2
    · rw [if_pos (.inl h2)] at hs ⊢
      rw [RN.at_t rfl, LN.at_from hs.2 (by simp only []; omega) (by omega)]
      simp only [show x + t - x = t by omega]
    · rw [if_neg (by omega), if_neg h3] at hs ⊢
      obtain ⟨rfl, rfl, rfl⟩ := kd_1 hm.1 hd.1 hn.1 (show kd m d n = 1 by have := kd_rng m d n; omega)
      rw [RN.at_t rfl, LN.at_from hs.2 (by simp only []; omega) (by omega)]
      simp
theorem ready_start {m d n x y : Int} (h : kd m d n ≠ 4) : RN.ready m d n x y = RN.start m d n x y := by unfold RN.start; rw [if_neg h]
theorem ready_4 {m d n x y : Int} (h : kd m d n = 4) : RN.ready m d n x y = ⟨LN.zero, ⟨x, y, n⟩, false⟩ := by unfold RN.ready; rw [if_pos (.inr h)]
theorem start_4 {m d n x y : Int} (h : kd m d n = 4) : RN.start m d n x y = ⟨LN.zero, ⟨x + d, y, n⟩, false⟩ := by unfold RN.start; rw [if_pos h]
theorem ready_serves {m d n x y t : Int} (hc : CIn m d n) (hf : FIn x y) (ht : 0 ≤ t ∧ t ≤ 9223372036854775807) : y + sv m d n t ≤ (RN.ready m d n x y).at (x + t) := by
  by_cases h4 : kd m d n = 4
  · have hs := ready_small hc hf
    have hf' := hf
    obtain ⟨hk, hm, hd, hn⟩ := hc
    unfold FIn at hf'
    rw [ready_4 h4] at hs ⊢
    obtain ⟨h1, rfl, h3⟩ := kd_4 h4
    rw [RN.at_t rfl, LN.at_from hs.2 (by simp only []; omega) (by omega)]
    simp only [show x + t - x = t by omega]
    unfold sv
    split
    · have := Int.mul_nonneg hn.1 ht.1; omega
    · have := Int.mul_le_mul_of_nonneg_left (show t - d ≤ t by omega) hn.1; omega
  · rw [ready_start h4, start_serves hc hf ht]; exact Int.le_refl _
/-! The meeting of two runs. -/
theorem LN.low_at {a b : LN} (ha : a.small) (hb : b.small) (hM : a.M = b.M) {x : Int} (h1 : a.X ≤ x) (h2 : b.X ≤ x) (hx : x ≤ 18446744073709551615) : (LN.low a b).at x = min (a.at x) (b.at x) := by
  obtain ⟨Xa, Ya, M⟩ := a
  obtain ⟨Xb, Yb, M'⟩ := b
  simp only [] at hM h1 h2
  subst hM
  have := lower_at (x := x) ha.1 hb.1 ha.2.1 hb.2.1 h1 h2 hx
  unfold LN.low LN.lowB LN.at
  simp only [] at this ⊢
  rcases h : Go.Proofs.Ytaaoadbcgnedkaa.lowB Xa Ya M Xb Yb M with _ | _
  · have := this.2 h
    rw [if_neg (by simp), Int.min_eq_left this]
  · have := this.1 h
    rw [if_pos rfl, Int.min_eq_right this]
theorem LN.low_small {a b : LN} (ha : a.small) (hb : b.small) : (LN.low a b).small := by unfold LN.low; split <;> assumption
theorem RN.meet_small {a b : RN} (ha : a.small) (hb : b.small) : (RN.meet a b).small := by
  refine ⟨?_, LN.low_small ha.2 hb.2⟩
  show (if a.b then LN.low a.f b.f else LN.zero).small
  split
  · exact LN.low_small ha.1 hb.1
  · exact zero_small
/-- Two runs that meet line by line. -/
def RN.alike (r s : RN) : Prop := r.b = s.b ∧ (r.b = true → r.f.M = s.f.M) ∧ r.t.M = s.t.M
def RN.begun (r : RN) (x : Int) : Prop := (r.b = true → r.f.X ≤ x) ∧ r.t.X ≤ x
theorem RN.meet_at {r s : RN} (hr : r.small) (hs : s.small) (h : r.alike s) {x : Int} (h1 : r.begun x) (h2 : s.begun x) (hx : x ≤ 18446744073709551615) : (RN.meet r s).at x = min (r.at x) (s.at x) := by
  have et := LN.low_at hr.2 hs.2 h.2.2 h1.2 h2.2 hx
  unfold RN.meet RN.at
  simp only []
  rw [et]
  rcases hb : r.b with _ | _
  · have hb' : s.b = false := by rw [← h.1]; exact hb
    simp [hb']
  · have hb' : s.b = true := by rw [← h.1]; exact hb
    have ef := LN.low_at hr.1 hs.1 (h.2.1 hb) (h1.1 hb) (h2.1 hb') hx
    simp only [hb', if_true]
    rw [ef]
    (repeat' split) <;> omega
/-- The line of a run that begins at its amount. -/
def RN.main (r : RN) : LN := if r.b then r.f else r.t
theorem RN.at_le_main (r : RN) (x : Int) : r.at x ≤ r.main.at x := by
  unfold RN.main
  split
  · rename_i h; exact RN.at_le_f r h x
  · exact RN.at_le_t r x
theorem LN.low_main {a b : LN} (ha : a.small) (hb : b.small) (hM : a.M = b.M) (hX : a.X ≤ b.X) {x W : Int} (hx : x ≤ b.X) (hW : b.Y < W) : (LN.low a b).at x < W ∧ b.at x < W := by
  have e1 : b.at x = b.Y := LN.at_lo hx
  refine ⟨?_, by omega⟩
  have hm := LN.at_mono (LN.low_small ha hb) hx hb.2.2
  have := LN.low_at ha hb hM hX (Int.le_refl _) hb.2.2
  have e2 : b.at b.X = b.Y := LN.at_lo (Int.le_refl _)
  omega
theorem RN.meet_reach {r s : RN} (hr : r.small) (hs : s.small) (h : r.alike s) (hX : r.main.X ≤ s.main.X) (hbeg : ∀ x, s.main.X ≤ x → r.begun x ∧ s.begun x) {W : Int} (hW : s.main.Y < W) (hW0 : 0 ≤ W) : (RN.meet r s).reach W = max (r.reach W) (s.reach W) := by
  have hm := RN.meet_small hr hs
  have r1 := RN.reach_rng (RN.small_ok hr) W
  have r2 := RN.reach_rng (RN.small_ok hs) W
  refine tick_ext (RN.reach_rng (RN.small_ok hm) W) (by omega) fun x hx hx' => ?_
  have i1 := RN.reach_iff hm hW0 hx hx'
  have i2 := RN.reach_iff hr hW0 hx hx'
  have i3 := RN.reach_iff hs hW0 hx hx'
  by_cases hxx : s.main.X ≤ x
  · have := RN.meet_at hr hs h (hbeg x hxx).1 (hbeg x hxx).2 (by omega)
    omega
  · have e : (RN.meet r s).main = LN.low r.main s.main := by
      unfold RN.main RN.meet
      simp only []
      have := h.1
      rcases hb : r.b with _ | _ <;> rw [hb] at this <;> simp [← this]
    have hM : r.main.M = s.main.M := by
      unfold RN.main
      have := h.1
      rcases hb : r.b with _ | _ <;> rw [hb] at this
      · simp only [← this]; exact h.2.2
      · simp only [← this, if_true]; exact h.2.1 hb
    have sr : r.main.small := by unfold RN.main; split; exact hr.1; exact hr.2
    have ss : s.main.small := by unfold RN.main; split; exact hs.1; exact hs.2
    have hl := LN.low_main (x := x) sr ss hM hX (by omega) hW
    have g1 := RN.at_le_main (RN.meet r s) x
    have g2 := RN.at_le_main s x
    rw [e] at g1
    omega
/-! Runs of one curve. -/
theorem start_alike (m d n x y x' y' : Int) : (RN.start m d n x y).alike (RN.start m d n x' y') := by
  unfold RN.start RN.ready
  (repeat' split) <;> exact ⟨rfl, fun _ => rfl, rfl⟩
theorem ready_alike (m d n x y x' y' : Int) : (RN.ready m d n x y).alike (RN.ready m d n x' y') := by
  unfold RN.ready
  (repeat' split) <;> exact ⟨rfl, fun _ => rfl, rfl⟩
theorem start_begun {m d n x y t : Int} (hd : 0 ≤ d) (h : x + d ≤ t) : (RN.start m d n x y).begun t := by
  unfold RN.start RN.ready
  (repeat' split)
  all_goals
    refine ⟨fun hb => ?_, by simp only []; omega⟩
    first
      | (simp only [] at hb; done)
      | (cases hb; done)
      | (simp only []; omega)
theorem ready_begun {m d n x y t : Int} (h : x ≤ t) : (RN.ready m d n x y).begun t := by
  unfold RN.ready
  split
  · exact ⟨(fun h => (by cases h)), h⟩
  · split
    · exact ⟨fun _ => h, h⟩
    · exact ⟨(fun h => (by cases h)), h⟩
theorem start_main {m d n x y : Int} : (RN.start m d n x y).main = ⟨if kd m d n = 4 then x + d else x, y, (RN.start m d n x y).main.M⟩ := by
  unfold RN.start RN.ready
  by_cases h4 : kd m d n = 4
  · simp [h4, RN.main]
  · by_cases h3 : kd m d n = 3
    · simp [h3, RN.main]
    · by_cases h2 : kd m d n = 2
      · simp [h2, RN.main]
      · simp [h2, h3, h4, RN.main]
theorem start_main_X (m d n x y : Int) : (RN.start m d n x y).main.X = if kd m d n = 4 then x + d else x := congrArg LN.X (start_main (m := m) (d := d) (n := n) (x := x) (y := y))
theorem start_main_Y (m d n x y : Int) : (RN.start m d n x y).main.Y = y := congrArg LN.Y (start_main (m := m) (d := d) (n := n) (x := x) (y := y))
theorem start_begun' {m d n x y t : Int} (h : (RN.start m d n x y).main.X ≤ t) : (RN.start m d n x y).begun t := by
  by_cases h4 : kd m d n = 4
  · rw [start_4 h4] at h ⊢; exact ⟨(fun h => (by cases h)), h⟩
  · rw [start_main_X, if_neg h4] at h
    rw [← ready_start h4]; exact ready_begun h
theorem starts_reach {m d n xa ya xb yb W : Int} (hc : CIn m d n) (ha : FIn xa ya) (hb : FIn xb yb) (hx : xa ≤ xb) (hW : yb < W) : (RN.meet (RN.start m d n xa ya) (RN.start m d n xb yb)).reach W = max ((RN.start m d n xa ya).reach W) ((RN.start m d n xb yb).reach W) := by
  have hX : (RN.start m d n xa ya).main.X ≤ (RN.start m d n xb yb).main.X := by
    rw [start_main_X, start_main_X]; split <;> omega
  refine RN.meet_reach (start_small hc ha) (start_small hc hb) (start_alike ..) hX (fun x h => ⟨start_begun' (Int.le_trans hX h), start_begun' h⟩) ?_ ?_
  · rw [start_main_Y]; exact hW
  · unfold FIn at hb; omega
theorem starts_at {m d n xa ya xb yb x : Int} (hc : CIn m d n) (ha : FIn xa ya) (hb : FIn xb yb) (hx : xa ≤ xb) (h : xb + d ≤ x) (hx' : x ≤ 18446744073709551615) : (RN.meet (RN.start m d n xa ya) (RN.start m d n xb yb)).at x = min ((RN.start m d n xa ya).at x) ((RN.start m d n xb yb).at x) := by
  have hd := hc.2.2.1.1
  exact RN.meet_at (start_small hc ha) (start_small hc hb) (start_alike ..) (start_begun hd (by omega)) (start_begun hd h) hx'
/-- The deadline run rises by no more than the curve's service, above where the ready run is. -/
theorem elig {m d n xa ya xb yb t u : Int} (hc : CIn m d n) (ha : FIn xa ya) (hb : FIn xb yb) (hx : xa ≤ xb) (ht : xb ≤ t ∧ t ≤ 4611686018427387904) (hu : 0 ≤ u ∧ u ≤ 4611686018427387904) :
    (RN.meet (RN.start m d n xa ya) (RN.start m d n xb yb)).at (t + u) ≤ (RN.meet (RN.ready m d n xa ya) (RN.ready m d n xb yb)).at t + sv m d n u := by
  have sa := start_small hc ha; have sb := start_small hc hb
  have ra := ready_small hc ha; have rb := ready_small hc hb
  have hc' := hc
  obtain ⟨hk, hm, hd, hn⟩ := hc'
  have ha' := ha; have hb' := hb
  unfold FIn at ha' hb'
  by_cases h4 : kd m d n = 4
  · rw [start_4 h4] at sa sb ⊢
    rw [start_4 h4]
    rw [ready_4 h4] at ra rb ⊢
    rw [ready_4 h4]
    obtain ⟨h1, rfl, h3⟩ := kd_4 h4
    -- the same line is chosen in both
    have same : LN.lowB ⟨xa + d, ya, n⟩ ⟨xb + d, yb, n⟩ = LN.lowB ⟨xa, ya, n⟩ ⟨xb, yb, n⟩ := by
      have e1 := LN.at_from (l := ⟨xa + d, ya, n⟩) (x := max (xa + d) (xb + d)) sa.2 (by simp only []; omega) (by omega)
      have e2 := LN.at_from (l := ⟨xb + d, yb, n⟩) (x := max (xa + d) (xb + d)) sb.2 (by simp only []; omega) (by omega)
      have e3 := LN.at_from (l := ⟨xa, ya, n⟩) (x := max xa xb) ra.2 (by simp only []; omega) (by omega)
      have e4 := LN.at_from (l := ⟨xb, yb, n⟩) (x := max xa xb) rb.2 (by simp only []; omega) (by omega)
      unfold LN.lowB Go.Proofs.Ytaaoadbcgnedkaa.lowB
      unfold LN.at at e1 e2 e3 e4
      simp only [] at e1 e2 e3 e4 ⊢
      rw [e1, e2, e3, e4, show max (xa + d) (xb + d) - (xa + d) = max xa xb - xa by omega, show max (xa + d) (xb + d) - (xb + d) = max xa xb - xb by omega]
    have hM := RN.meet_small sa sb
    have hR := RN.meet_small ra rb
    rw [RN.at_t rfl, RN.at_t rfl]
    unfold RN.meet at hM hR ⊢
    simp only [] at hM hR ⊢
    unfold LN.low at hM hR ⊢
    rw [same] at hM ⊢
    have key : ∀ x y : Int, x ≤ t → 0 ≤ x → LN.small ⟨x + d, y, n⟩ → LN.small ⟨x, y, n⟩ → LN.at ⟨x + d, y, n⟩ (t + u) ≤ LN.at ⟨x, y, n⟩ t + sv 0 d n u := by
      intro x y hxt hx0 q1 q2
      rw [LN.at_from (l := ⟨x, y, n⟩) q2 hxt (by omega)]
      simp only []
      have g1 := Int.mul_nonneg hn.1 (show 0 ≤ t - x by omega)
      by_cases hh : t + u ≤ x + d
      · rw [LN.at_lo (by simp only []; omega)]
        simp only []
        unfold sv; split
        · omega
        · have := Int.mul_nonneg hn.1 (show 0 ≤ u - d by omega); omega
      · rw [LN.at_from (l := ⟨x + d, y, n⟩) q1 (by simp only []; omega) (by omega)]
        simp only []
        unfold sv; split
        · have := Int.mul_le_mul_of_nonneg_left (show t + u - (x + d) ≤ t - x by omega) hn.1; omega
        · have e : t + u - (x + d) = (t - x) + (u - d) := by omega
          rw [e, Int.mul_add]; omega
    by_cases hl : LN.lowB ⟨xa, ya, n⟩ ⟨xb, yb, n⟩ = true
    · rw [if_pos hl, if_pos hl]
      exact key xb yb ht.1 hb'.1.1 sb.2 rb.2
    · rw [if_neg hl, if_neg hl]
      exact key xa ya (by omega) ha'.1.1 sa.2 ra.2
  · rw [ready_start h4, ready_start h4]
    have ba : (RN.start m d n xa ya).begun t := by rw [← ready_start h4]; exact ready_begun (by omega)
    have bb : (RN.start m d n xb yb).begun t := by rw [← ready_start h4]; exact ready_begun ht.1
    have hM := RN.meet_small sa sb
    have bM : (RN.meet (RN.start m d n xa ya) (RN.start m d n xb yb)).begun t := by
      refine ⟨fun h => ?_, ?_⟩
      · have hb1 : (RN.start m d n xa ya).b = true := h
        have hb2 : (RN.start m d n xb yb).b = true := by rw [← (start_alike m d n xa ya xb yb).1]; exact hb1
        show (if (RN.start m d n xa ya).b then LN.low (RN.start m d n xa ya).f (RN.start m d n xb yb).f else LN.zero).X ≤ t
        rw [if_pos hb1]; unfold LN.low; split
        · exact bb.1 hb2
        · exact ba.1 hb1
      · show (LN.low (RN.start m d n xa ya).t (RN.start m d n xb yb).t).X ≤ t
        unfold LN.low; split
        · exact bb.2
        · exact ba.2
    have mt : (RN.meet (RN.start m d n xa ya) (RN.start m d n xb yb)).t.M = (RN.start m d n xa ya).t.M := by
      show (LN.low (RN.start m d n xa ya).t (RN.start m d n xb yb).t).M = _
      unfold LN.low; split
      · exact (start_alike m d n xa ya xb yb).2.2.symm
      · rfl
    generalize hR : RN.meet (RN.start m d n xa ya) (RN.start m d n xb yb) = R at hM bM mt ⊢
    have et := LN.at_from (x := t + u) hM.2 (by have := bM.2; omega) (by omega)
    have et0 := LN.at_from (x := t) hM.2 bM.2 (by omega)
    have split_t : R.t.M * (t + u - R.t.X) = R.t.M * (t - R.t.X) + R.t.M * u := by rw [show t + u - R.t.X = (t - R.t.X) + u by omega, Int.mul_add]
    by_cases h3 : kd m d n = 3
    · have hp := kd_3 h3
      have hb1 : (RN.start m d n xa ya).b = true := by rw [← ready_start h4]; unfold RN.ready; rw [if_neg (by omega), if_pos h3]
      have eS : ∀ x y, RN.start m d n x y = ⟨⟨x, y, m⟩, ⟨x, m128 (y + (m - n) * d), n⟩, true⟩ := fun x y => by rw [← ready_start h4]; unfold RN.ready; rw [if_neg (by omega), if_pos h3]
      have Rb : R.b = true := by rw [← hR]; exact hb1
      have mf : R.f.M = m := by
        rw [← hR]
        show (if (RN.start m d n xa ya).b then LN.low (RN.start m d n xa ya).f (RN.start m d n xb yb).f else LN.zero).M = m
        rw [if_pos hb1]; unfold LN.low; rw [eS, eS]; split <;> rfl
      have mtn : R.t.M = n := by rw [mt, eS]
      have ef := LN.at_from (x := t + u) hM.1 (by have := bM.1 Rb; omega) (by omega)
      have ef0 := LN.at_from (x := t) hM.1 (bM.1 Rb) (by omega)
      have split_f : R.f.M * (t + u - R.f.X) = R.f.M * (t - R.f.X) + R.f.M * u := by rw [show t + u - R.f.X = (t - R.f.X) + u by omega, Int.mul_add]
      -- the line with the lesser slope lies above the steeper one by no more than what the first piece adds
      have gap : R.t.at t ≤ R.f.at t + (m - n) * d := by
        have lt := LN.low_at (x := t) sa.2 sb.2 (start_alike m d n xa ya xb yb).2.2 ba.2 bb.2 (by omega)
        have hb2 : (RN.start m d n xb yb).b = true := by rw [eS]
        have lf := LN.low_at (x := t) sa.1 sb.1 ((start_alike m d n xa ya xb yb).2.1 hb1) (ba.1 hb1) (bb.1 hb2) (by omega)
        have e1 : R.t = LN.low (RN.start m d n xa ya).t (RN.start m d n xb yb).t := by rw [← hR]; rfl
        have e2 : R.f = LN.low (RN.start m d n xa ya).f (RN.start m d n xb yb).f := by
          rw [← hR]; show (if (RN.start m d n xa ya).b then LN.low (RN.start m d n xa ya).f (RN.start m d n xb yb).f else LN.zero) = _; rw [if_pos hb1]
        have one : ∀ x y, FIn x y → x ≤ t → (RN.start m d n x y).t.at t ≤ (RN.start m d n x y).f.at t + (m - n) * d := by
          intro x y hxy hxt
          have ss := start_small hc hxy
          rw [eS] at ss ⊢
          have q1 := LN.at_from (x := t) ss.1 hxt (by omega)
          have q2 := LN.at_from (x := t) ss.2 hxt (by omega)
          simp only [above_of hc hxy (show n ≤ m by omega)] at q1 q2 ⊢
          rw [q1, q2]
          have := Int.mul_le_mul_of_nonneg_right (show n ≤ m by omega) (show 0 ≤ t - x by omega)
          omega
        have g1 := one xa ya ha (by omega)
        have g2 := one xb yb hb ht.1
        rw [← e1] at lt; rw [← e2] at lf
        omega
      unfold RN.at
      simp only [Rb, if_true]
      rw [sv_min]
      rw [mf] at split_f ef ef0
      rw [mtn] at split_t et et0
      have q : m * u = n * u + (m - n) * u := by rw [Int.sub_mul]; omega
      have hmn := Int.mul_nonneg (show 0 ≤ m - n by omega) hu.1
      have hpd := (prod_in hc (show n ≤ m by omega)).1
      rcases Int.le_total u d with h | h
      · have := Int.mul_le_mul_of_nonneg_left h (show 0 ≤ m - n by omega)
        rw [Int.min_eq_left h]
        (repeat' split) <;> omega
      · have := Int.mul_le_mul_of_nonneg_left h (show 0 ≤ m - n by omega)
        rw [Int.min_eq_right h]
        (repeat' split) <;> omega
    · have eS : ∀ x y, (RN.start m d n x y).b = false ∧ (RN.start m d n x y).t.M * u = sv m d n u := by
        intro x y
        rw [← ready_start h4]
        have : kd m d n = 1 ∨ kd m d n = 2 := by have := kd_rng m d n; omega
        unfold RN.ready
        rw [sv_min]
        rcases this with h | h
        · obtain ⟨rfl, rfl, rfl⟩ := kd_1 hm.1 hd.1 hn.1 h
          rw [if_neg (by omega), if_neg h3]; simp
        · obtain ⟨rfl, rfl⟩ := kd_2 h
          rw [if_pos (.inl h)]; simp
      have Rb : R.b = false := by rw [← hR]; exact (eS xa ya).1
      rw [RN.at_t Rb, RN.at_t Rb, ← (eS xa ya).2, ← mt]
      omega
end Go.Proofs.Ytaaoadbcgnedkaa
