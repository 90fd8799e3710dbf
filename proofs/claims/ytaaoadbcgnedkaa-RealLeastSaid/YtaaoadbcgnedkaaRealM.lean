/-
  Plain laws of a leaf's dues behind any wakes: the deadlines' and the readies' runs as foldings of meetings. Conditions: a curve that may be, wakes whose ticks and amounts are small.
-/
import Derived.Test.YtaaoadbcgnedkaaRunS
namespace Go.Proofs.Ytaaoadbcgnedkaa
open Go.RowKit
set_option linter.unusedVariables false
set_option linter.unusedSimpArgs false
/-- A wake: its tick, and the bytes that were picked till then. -/
structure WN where
  (at_ p : Int)
def WN.ok (v : WN) : Prop := FIn v.at_ (v.p * 65536)
def WN.start (m d n : Int) (v : WN) : RN := RN.start m d n v.at_ (v.p * 65536)
def WN.ready (m d n : Int) (v : WN) : RN := RN.ready m d n v.at_ (v.p * 65536)
def dls (m d n : Int) (w : WN) (l : List WN) : RN := l.foldl (fun r v => RN.meet r (v.start m d n)) (w.start m d n)
def rds (m d n : Int) (w : WN) (l : List WN) : RN := l.foldl (fun r v => RN.meet r (v.ready m d n)) (w.ready m d n)
theorem dls_snoc (m d n : Int) (w : WN) (l : List WN) (v : WN) : dls m d n w (l ++ [v]) = RN.meet (dls m d n w l) (v.start m d n) := by unfold dls; rw [List.foldl_append]; rfl
theorem rds_snoc (m d n : Int) (w : WN) (l : List WN) (v : WN) : rds m d n w (l ++ [v]) = RN.meet (rds m d n w l) (v.ready m d n) := by unfold rds; rw [List.foldl_append]; rfl
theorem alike_trans {r s t : RN} (h1 : r.alike s) (h2 : s.alike t) : r.alike t := ⟨h1.1.trans h2.1, fun h => (h1.2.1 h).trans (h2.2.1 (by rw [← h1.1]; exact h)), h1.2.2.trans h2.2.2⟩
theorem alike_symm {r s : RN} (h : r.alike s) : s.alike r := ⟨h.1.symm, fun hb => (h.2.1 (by rw [h.1]; exact hb)).symm, h.2.2.symm⟩
theorem meet_alike {r s t : RN} (h1 : r.alike t) (h2 : s.alike t) : (RN.meet r s).alike t := by
  refine ⟨h1.1, fun hb => ?_, ?_⟩
  · have hb' : r.b = true := hb
    show (if r.b then LN.low r.f s.f else LN.zero).M = t.f.M
    rw [if_pos hb']; unfold LN.low; split
    · exact h2.2.1 (by rw [h2.1, ← h1.1]; exact hb')
    · exact h1.2.1 hb'
  · show (LN.low r.t s.t).M = t.t.M
    unfold LN.low; split
    · exact h2.2.2
    · exact h1.2.2
theorem meet_begun {r s : RN} {x : Int} (h : r.alike s) (h1 : r.begun x) (h2 : s.begun x) : (RN.meet r s).begun x := by
  refine ⟨fun hb => ?_, ?_⟩
  · have hb' : r.b = true := hb
    show (if r.b then LN.low r.f s.f else LN.zero).X ≤ x
    rw [if_pos hb']; unfold LN.low; split
    · exact h2.1 (by rw [← h.1]; exact hb')
    · exact h1.1 hb'
  · show (LN.low r.t s.t).X ≤ x
    unfold LN.low; split
    · exact h2.2
    · exact h1.2
/-- What a leaf was asked till a tick since a wake. -/
def WN.val (m d n x : Int) (v : WN) : Int := v.p * 65536 + sv m d n (x - v.at_)
/-- The least of them, in the order in which a loop seeks it. -/
def lst (m d n x : Int) (w : WN) (l : List WN) : Int := l.foldl (fun a v => if v.val m d n x < a then v.val m d n x else a) (w.val m d n x)
theorem lst_snoc (m d n x : Int) (w : WN) (l : List WN) (v : WN) : lst m d n x w (l ++ [v]) = if v.val m d n x < lst m d n x w l then v.val m d n x else lst m d n x w l := by unfold lst; rw [List.foldl_append]; rfl
theorem dls_at {m d n x : Int} (hc : CIn m d n) (hx : x ≤ 9223372036854775807) (w : WN) (l : List WN) (hw : w.ok ∧ w.at_ + d ≤ x) (hl : ∀ v ∈ l, v.ok ∧ v.at_ + d ≤ x) : (dls m d n w l).at x = lst m d n x w l := by
  have hd := hc.2.2.1.1
  have one : ∀ v : WN, v.ok → v.at_ + d ≤ x → (v.start m d n).small ∧ (v.start m d n).alike (RN.start m d n 0 0) ∧ (v.start m d n).begun x ∧ (v.start m d n).at x = v.val m d n x := by
    intro v hv hvx
    refine ⟨start_small hc hv, start_alike .., start_begun hd hvx, ?_⟩
    have hv' := hv
    unfold WN.ok FIn at hv'
    have := start_serves (t := x - v.at_) hc hv (by omega)
    unfold WN.start WN.val
    rw [← this, show v.at_ + (x - v.at_) = x by omega]
  have key : ∀ (l : List WN) (r : RN) (a : Int), (∀ v ∈ l, v.ok ∧ v.at_ + d ≤ x) → r.small → r.alike (RN.start m d n 0 0) → r.begun x → r.at x = a →
      (l.foldl (fun r v => RN.meet r (v.start m d n)) r).at x = l.foldl (fun a v => if v.val m d n x < a then v.val m d n x else a) a := by
    intro l
    induction l with
    | nil => intro r a _ _ _ _ h; exact h
    | cons v l ih =>
      intro r a hl hr ha hb he
      obtain ⟨o1, o2, o3, o4⟩ := one v (hl v (List.mem_cons_self ..)).1 (hl v (List.mem_cons_self ..)).2
      have al := alike_trans ha (alike_symm o2)
      refine ih _ _ (fun u hu => hl u (List.mem_cons_of_mem _ hu)) (RN.meet_small hr o1) (meet_alike ha o2) (meet_begun al hb o3) ?_
      rw [RN.meet_at hr o1 al hb o3 (by omega), he, o4]
      show min a (v.val m d n x) = if v.val m d n x < a then v.val m d n x else a
      split <;> omega
  obtain ⟨o1, o2, o3, o4⟩ := one w hw.1 hw.2
  exact key l _ _ hl o1 o2 o3 o4
/-! Each line of the deadlines' run is a line of one wake's. -/
def FromW (m d n : Int) (ws : List WN) (r : RN) : Prop := r.small ∧ r.alike (RN.start m d n 0 0) ∧ (∃ v ∈ ws, r.t = (v.start m d n).t) ∧ (r.b = true → ∃ v ∈ ws, r.f = (v.start m d n).f)
theorem FromW.one {m d n : Int} (hc : CIn m d n) {v : WN} (hv : v.ok) : FromW m d n [v] (v.start m d n) :=
  ⟨start_small hc hv, start_alike .., ⟨v, List.mem_singleton.2 rfl, rfl⟩, fun _ => ⟨v, List.mem_singleton.2 rfl, rfl⟩⟩
theorem FromW.meet {m d n : Int} (hc : CIn m d n) {ws : List WN} {r : RN} (h : FromW m d n ws r) {v : WN} (hv : v.ok) : FromW m d n (ws ++ [v]) (RN.meet r (v.start m d n)) := by
  obtain ⟨h1, h2, ⟨u, hu, h3⟩, h4⟩ := h
  refine ⟨RN.meet_small h1 (start_small hc hv), meet_alike h2 (start_alike ..), ?_, fun hb => ?_⟩
  · show ∃ v' ∈ ws ++ [v], LN.low r.t (v.start m d n).t = (v'.start m d n).t
    unfold LN.low; split
    · exact ⟨v, by simp, rfl⟩
    · exact ⟨u, by simp [hu], h3⟩
  · have hb' : r.b = true := hb
    show ∃ v' ∈ ws ++ [v], (if r.b then LN.low r.f (v.start m d n).f else LN.zero) = (v'.start m d n).f
    rw [if_pos hb']
    obtain ⟨u', hu', h5⟩ := h4 hb'
    unfold LN.low; split
    · exact ⟨v, by simp, rfl⟩
    · exact ⟨u', by simp [hu'], h5⟩
theorem dls_from {m d n : Int} (hc : CIn m d n) (w : WN) (l : List WN) (hw : w.ok) (hl : ∀ v ∈ l, v.ok) : FromW m d n (w :: l) (dls m d n w l) := by
  have key : ∀ (l ws : List WN) (r : RN), (∀ v ∈ l, v.ok) → FromW m d n ws r → FromW m d n (ws ++ l) (l.foldl (fun r v => RN.meet r (v.start m d n)) r) := by
    intro l
    induction l with
    | nil => intro ws r _ h; rw [List.append_nil]; exact h
    | cons v l ih =>
      intro ws r hl h
      have := ih (ws ++ [v]) _ (fun u hu => hl u (List.mem_cons_of_mem _ hu)) (h.meet hc (hl v (List.mem_cons_self ..)))
      rwa [List.append_assoc] at this
  exact key l [w] _ hl (FromW.one hc hw)
/-- What a leaf was asked since a wake: nothing more ahead of it. -/
def WN.asked (m d n x : Int) (v : WN) : Int := if v.at_ < x then v.val m d n x else v.p * 65536
theorem start_asked {m d n x : Int} (hc : CIn m d n) (v : WN) (hv : v.ok) (hx : x ≤ 9223372036854775807) : (v.start m d n).at x = v.asked m d n x := by
  have hv' := hv
  unfold WN.ok FIn at hv'
  unfold WN.asked
  split
  · have := start_serves (t := x - v.at_) hc hv (by omega)
    unfold WN.start WN.val
    rw [← this, show v.at_ + (x - v.at_) = x by omega]
  · have hs := start_small hc hv
    obtain ⟨hk, hm, hd, hn⟩ := hc
    unfold WN.start RN.start RN.ready at *
    by_cases h4 : kd m d n = 4
    · rw [if_pos h4] at hs ⊢
      rw [RN.at_t rfl, LN.at_lo (by simp only []; omega)]
    rw [if_neg h4] at hs ⊢
    by_cases h3 : kd m d n = 3
    · rw [if_neg (by omega), if_pos h3] at hs ⊢
      have hp := kd_3 h3
      have hq := prod_in ⟨hk, hm, hd, hn⟩ (show n ≤ m by omega)
      unfold RN.at
      simp only [if_true]
      rw [LN.at_lo (by simp only []; omega), LN.at_lo (by simp only []; omega)]
      simp only [above_of ⟨hk, hm, hd, hn⟩ hv (show n ≤ m by omega)]
      split <;> omega
    · by_cases h2 : kd m d n = 2
      · rw [if_pos (.inl h2)] at hs ⊢
        rw [RN.at_t rfl, LN.at_lo (by simp only []; omega)]
      · rw [if_neg (by omega), if_neg h3] at hs ⊢
        rw [RN.at_t rfl, LN.at_lo (by simp only []; omega)]
/-- At any tick the deadlines' run is at least what was asked since one of the wakes. -/
theorem from_asked {m d n x : Int} (hc : CIn m d n) {ws : List WN} {r : RN} (h : FromW m d n ws r) (hws : ∀ v ∈ ws, v.ok) (hx : x ≤ 9223372036854775807) : ∃ v ∈ ws, v.asked m d n x ≤ r.at x := by
  obtain ⟨h1, h2, ⟨u, hu, h3⟩, h4⟩ := h
  have ht : u.asked m d n x ≤ r.t.at x := by
    rw [← start_asked hc u (hws u hu) hx, h3]; exact RN.at_le_t _ _
  unfold RN.at
  split
  · rename_i hb
    obtain ⟨u', hu', h5⟩ := h4 hb
    have hf : u'.asked m d n x ≤ r.f.at x := by
      have hb' : (u'.start m d n).b = true := by
        have e1 : r.b = (RN.start m d n 0 0).b := h2.1
        have e2 : (u'.start m d n).b = (RN.start m d n 0 0).b := (start_alike ..).1
        rw [e2, ← e1]; exact hb
      rw [← start_asked hc u' (hws u' hu') hx, h5]; exact RN.at_le_f _ hb' _
    split
    · exact ⟨u', hu', hf⟩
    · exact ⟨u, hu, ht⟩
  · exact ⟨u, hu, ht⟩
/-- At tick 0 it is at most what was picked. -/
theorem from_zero {m d n P : Int} (hc : CIn m d n) {ws : List WN} {r : RN} (h : FromW m d n ws r) (hws : ∀ v ∈ ws, v.ok ∧ v.p ≤ P) : r.at 0 ≤ P * 65536 := by
  obtain ⟨h1, h2, ⟨u, hu, h3⟩, h4⟩ := h
  have hm := RN.at_le_main r 0
  have e : ∃ v ∈ ws, r.main = (v.start m d n).main := by
    unfold RN.main
    split
    · rename_i hb
      obtain ⟨u', hu', h5⟩ := h4 hb
      have hb' : (u'.start m d n).b = true := by
        have e1 : r.b = (RN.start m d n 0 0).b := h2.1
        have e2 : (u'.start m d n).b = (RN.start m d n 0 0).b := (start_alike ..).1
        rw [e2, ← e1]; exact hb
      exact ⟨u', hu', by rw [if_pos hb']; exact h5⟩
    · rename_i hb
      have hb' : (u.start m d n).b = false := by
        have e1 : r.b = (RN.start m d n 0 0).b := h2.1
        have e2 : (u.start m d n).b = (RN.start m d n 0 0).b := (start_alike ..).1
        rw [e2, ← e1]; simpa using hb
      exact ⟨u, hu, by rw [hb']; simpa using h3⟩
  obtain ⟨v, hv, e⟩ := e
  have hv' := (hws v hv).1
  unfold WN.ok FIn at hv'
  have hd := hc.2.2.1.1
  rw [e] at hm
  unfold WN.start at hm
  rw [LN.at_lo (by rw [start_main_X]; split <;> omega), start_main_Y] at hm
  have := (hws v hv).2
  omega
/-! The readies' run is nowhere below the deadlines'. -/
def Pair (m d n : Int) (D E : RN) : Prop := D.small ∧ E.small ∧ (kd m d n ≠ 4 → D = E) ∧ (kd m d n = 4 → D.b = false ∧ E.b = false ∧ D.t = ⟨E.t.X + d, E.t.Y, E.t.M⟩ ∧ E.t.M = n)
theorem Pair.one {m d n : Int} (hc : CIn m d n) (v : WN) (hv : v.ok) : Pair m d n (v.start m d n) (v.ready m d n) := by
  refine ⟨start_small hc hv, ready_small hc hv, fun h => (ready_start h).symm, fun h => ?_⟩
  unfold WN.start WN.ready
  rw [start_4 h, ready_4 h]
  exact ⟨rfl, rfl, rfl, rfl⟩
theorem low_shift {a b : LN} {n d : Int} (hd : 0 ≤ d ∧ d ≤ 1048576) (ha : a.small) (hb : b.small) (hna : a.M = n) (hnb : b.M = n) (sa : LN.small ⟨a.X + d, a.Y, a.M⟩) (sb : LN.small ⟨b.X + d, b.Y, b.M⟩) :
    LN.lowB ⟨a.X + d, a.Y, a.M⟩ ⟨b.X + d, b.Y, b.M⟩ = LN.lowB a b := by
  obtain ⟨xa, ya, M⟩ := a
  obtain ⟨xb, yb, M'⟩ := b
  simp only [] at hna hnb
  subst hna hnb
  have ha' := ha.2; have hb' := hb.2; have sa' := sa.2; have sb' := sb.2
  simp only [] at ha' hb' sa' sb'
  have e1 := LN.at_from (x := max (xa + d) (xb + d)) sa (by simp only []; omega) (by omega)
  have e2 := LN.at_from (x := max (xa + d) (xb + d)) sb (by simp only []; omega) (by omega)
  have e3 := LN.at_from (x := max xa xb) ha (by simp only []; omega) (by omega)
  have e4 := LN.at_from (x := max xa xb) hb (by simp only []; omega) (by omega)
  unfold LN.lowB Go.Proofs.Ytaaoadbcgnedkaa.lowB
  unfold LN.at at e1 e2 e3 e4
  simp only [] at e1 e2 e3 e4 ⊢
  rw [e1, e2, e3, e4, show max (xa + d) (xb + d) - (xa + d) = max xa xb - xa by omega, show max (xa + d) (xb + d) - (xb + d) = max xa xb - xb by omega]
theorem Pair.meet {m d n : Int} (hc : CIn m d n) {D E : RN} (h : Pair m d n D E) (v : WN) (hv : v.ok) : Pair m d n (RN.meet D (v.start m d n)) (RN.meet E (v.ready m d n)) := by
  obtain ⟨h1, h2, h3, h4⟩ := h
  refine ⟨RN.meet_small h1 (start_small hc hv), RN.meet_small h2 (ready_small hc hv), fun hk => ?_, fun hk => ?_⟩
  · rw [h3 hk]; unfold WN.start WN.ready; rw [ready_start hk]
  · obtain ⟨g1, g2, g3, g4⟩ := h4 hk
    refine ⟨g1, g2, ?_, ?_⟩
    · show LN.low D.t (v.start m d n).t = ⟨(LN.low E.t (v.ready m d n).t).X + d, (LN.low E.t (v.ready m d n).t).Y, (LN.low E.t (v.ready m d n).t).M⟩
      have ss := start_small hc hv; have sr := ready_small hc hv
      unfold WN.start WN.ready
      rw [start_4 hk] at ss ⊢
      rw [ready_4 hk] at sr ⊢
      have h1t := h1.2
      rw [g3] at h1t ⊢
      have := low_shift (n := n) (d := d) (a := E.t) (b := ⟨v.at_, v.p * 65536, n⟩) hc.2.2.1 h2.2 sr.2 g4 rfl h1t ss.2
      unfold LN.low
      simp only [] at this ⊢
      rw [this]
      split <;> rfl
    · show (LN.low E.t (v.ready m d n).t).M = n
      unfold LN.low WN.ready
      rw [ready_4 hk]
      split
      · rfl
      · exact g4
theorem Pair.le {m d n : Int} (hc : CIn m d n) {D E : RN} (h : Pair m d n D E) {x : Int} (hx : x ≤ 9223372036854775808) : D.at x ≤ E.at x := by
  obtain ⟨h1, h2, h3, h4⟩ := h
  by_cases hk : kd m d n = 4
  · obtain ⟨g1, g2, g3, g4⟩ := h4 hk
    rw [RN.at_t g1, RN.at_t g2]
    have hd := hc.2.2.1
    have s1 := h1.2; have s2 := h2.2
    rw [g3] at s1 ⊢
    have hM := s2.1.2.1
    by_cases c1 : x ≤ E.t.X + d
    · rw [LN.at_lo (l := ⟨E.t.X + d, E.t.Y, E.t.M⟩) c1]
      simp only []
      by_cases c2 : x ≤ E.t.X
      · rw [LN.at_lo c2]; exact Int.le_refl _
      · rw [LN.at_from s2 (by omega) (by omega)]
        have := Int.mul_nonneg hM (show 0 ≤ x - E.t.X by omega); omega
    · rw [LN.at_from s1 (by simp only []; omega) (by omega), LN.at_from s2 (by omega) (by omega)]
      simp only []
      have := Int.mul_le_mul_of_nonneg_left (show x - (E.t.X + d) ≤ x - E.t.X by omega) hM; omega
  · rw [h3 hk]; exact Int.le_refl _
/-- A leaf is eligible no later than at its deadline. -/
theorem Pair.elig {m d n : Int} (hc : CIn m d n) {D E : RN} (h : Pair m d n D E) {W W' : Int} (hW : 0 ≤ W) (hWW : W ≤ W') : E.reach W ≤ D.reach W' := by
  have r1 := RN.reach_rng (RN.small_ok h.1) W'
  have r2 := RN.reach_rng (RN.small_ok h.2.1) W
  by_cases hn : D.reach W' = 9223372036854775808
  · omega
  · have i1 := RN.reach_iff (x := D.reach W') h.1 (show 0 ≤ W' by omega) r1.1 (by omega)
    have i2 := RN.reach_iff (x := D.reach W') h.2.1 hW r1.1 (by omega)
    have := h.le hc (x := D.reach W') (by omega)
    rw [i2]
    have := i1.1 (Int.le_refl _)
    omega
/-- One tick ahead of the deadline less was asked since some wake than what is to be reached. -/
theorem reach_since {m d n : Int} (hc : CIn m d n) {ws : List WN} {r : RN} (h : FromW m d n ws r) {P W : Int} (hP : 0 ≤ P) (hws : ∀ v ∈ ws, v.ok ∧ v.p ≤ P) (hW : P * 65536 < W) : 1 ≤ r.reach W ∧ ∃ v ∈ ws, v.asked m d n (r.reach W - 1) < W := by
  have r1 := RN.reach_rng (RN.small_ok h.1) W
  have hz := from_zero hc h hws
  have h1 : 1 ≤ r.reach W := by
    have := RN.reach_iff (x := 0) h.1 (show 0 ≤ W by omega) (by omega) (by omega)
    omega
  refine ⟨h1, ?_⟩
  have := RN.reach_iff (x := r.reach W - 1) h.1 (show 0 ≤ W by omega) (by omega) (by omega)
  obtain ⟨v, hv, hle⟩ := from_asked (x := r.reach W - 1) hc h (fun v hv => (hws v hv).1) (by omega)
  exact ⟨v, hv, by omega⟩
end Go.Proofs.Ytaaoadbcgnedkaa
