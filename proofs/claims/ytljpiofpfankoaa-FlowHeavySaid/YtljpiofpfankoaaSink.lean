/-
  A region that draws its order, whose operations read and call, but for the last ones, which wait for all others: one walk in the text's order, and the last ones in theirs. Conditions: none.
-/
import Derived.Test.YtljpiofpfankoaaCalm
namespace Go.Proofs.Ytljpiofpfankoaa
open Go.RowKit Go.Sort
set_option linter.unusedVariables false
set_option linter.unusedSimpArgs false
section
variable {P : Program} {ops : Array Oper} {md : Region.Mode} {C : World → Prop}
/-- On what an operation waits. -/
def waits (md : Region.Mode) (ops : Array Oper) (j : Nat) : List Nat := match ops[j]? with
  | some o => (o.after.toList.filter (Region.binds md)).map (·.on)
  | none => []
def Listed (md : Region.Mode) (ops : Array Oper) (listed : Array Bool) : Prop := ∀ j i, listed.getD j false = true → i ∈ waits md ops j → listed.getD i false = true
theorem ready_waits {listed : Array Bool} {j i : Nat} (h : j ∈ Region.ready md ops listed) (hi : i ∈ waits md ops j) : listed.getD i false = true := by
  obtain ⟨_, o, ho, hall⟩ := mem_ready.1 h
  unfold waits at hi
  rw [ho] at hi
  obtain ⟨e, he, rfl⟩ := List.mem_map.1 hi
  have := List.mem_filter.1 he
  exact hall e (by simpa using this.1) this.2
theorem Listed.add {listed : Array Bool} {j : Nat} (h : Listed md ops listed) (hj : j ∈ Region.ready md ops listed) : Listed md ops (listed.setIfInBounds j true) := by
  intro k i hk hi
  refine getD_set_true ?_
  by_cases hkj : k = j
  · subst hkj; exact ready_waits hj hi
  · rw [getD_set_ne false (Ne.symm hkj)] at hk; exact h k i hk hi
/-- Each operation ahead of n is waited for by a later one up to n; each one behind n waits for the one ahead of it. -/
def coverB (md : Region.Mode) (ops : Array Oper) (n : Nat) : Bool :=
  (List.range (ops.size - 1)).all fun i => if i < n then (List.range (n + 1)).any fun j => decide (i < j) && (waits md ops j).contains i else (waits md ops (i + 1)).contains i
theorem cover_spec {n : Nat} (hn : n < ops.size) (h : coverB md ops n = true) : (∀ i, i < n → ∃ j, i < j ∧ j ≤ n ∧ i ∈ waits md ops j) ∧ (∀ i, n ≤ i → i + 1 < ops.size → i ∈ waits md ops (i + 1)) := by
  unfold coverB at h
  rw [List.all_eq_true] at h
  constructor
  · intro i hi
    have := h i (List.mem_range.2 (by omega))
    rw [if_pos hi, List.any_eq_true] at this
    obtain ⟨j, hj, hc⟩ := this
    simp at hc hj
    exact ⟨j, hc.1, by omega, hc.2⟩
  · intro i hi hs
    have := h i (List.mem_range.2 (by omega))
    rw [if_neg (by omega)] at this
    simpa using this
theorem ready_lt {listed : Array Bool} {t : Nat} (ht : t ∈ Region.ready md ops listed) : t < ops.size := by
  obtain ⟨_, o, ho, _⟩ := mem_ready.1 ht
  exact (Array.getElem?_eq_some_iff.1 ho).1
theorem ready_last {n : Nat} {listed : Array Bool} (hn : n < ops.size) (hc : coverB md ops n = true) (hl : Listed md ops listed) {t : Nat} (ht : t ∈ Region.ready md ops listed) (hnt : n ≤ t) : ∀ i, i < n → listed.getD i false = true := by
  obtain ⟨c1, c2⟩ := cover_spec hn hc
  -- what t waits for: all from n up to t - 1
  have up : ∀ d i, i + d + 1 = t → n ≤ i → listed.getD i false = true := by
    intro d
    induction d with
    | zero =>
      intro i hi hni
      have hi' : i + 1 = t := by omega
      have := c2 i hni (by rw [hi']; exact ready_lt ht)
      rw [hi'] at this
      exact ready_waits ht this
    | succ d ih =>
      intro i hi hni
      have h1 := ih (i + 1) (by omega) (by omega)
      exact hl _ _ h1 (c2 i hni (by have := ready_lt ht; omega))
  have dn : ∀ d i, i + d + 1 = n → listed.getD i false = true := by
    intro d
    induction d using Nat.strongRecOn with
    | _ d ih =>
      intro i hi
      obtain ⟨j, hij, hjn, hw⟩ := c1 i (by omega)
      by_cases hj : j = n
      · subst hj
        by_cases htj : t = j
        · subst htj; exact ready_waits ht hw
        · exact hl _ _ (up (t - j - 1) j (by omega) (Nat.le_refl _)) hw
      · exact hl _ _ (ih (n - j - 1) (by omega) j (by omega)) hw
  intro i hi
  exact dn (n - i - 1) i (by omega)
/-- Whatever order is picked from here on, up to the last ones. -/
def wpAnyT (P : Program) (md : Region.Mode) (ops : Array Oper) (C : World → Prop) (B : Array Bool → Act → Prop) : Nat → Array Bool → Act → Prop
  | 0, listed, a => B listed a
  | fuel + 1, listed, a => Region.ready md ops listed ≠ [] ∧ ∀ i ∈ Region.ready md ops listed, qOp P ops C i (wpAnyT P md ops C B fuel (listed.setIfInBounds i true)) a
theorem getD_tf {l : Array Bool} {i : Nat} (h : l.getD i false = true) : l.getD i true = true := by
  simp only [Array.getD_eq_getD_getElem?] at *
  rcases Nat.lt_or_ge i l.size with h' | h'
  · simpa [h'] using h
  · simp [Array.getElem?_eq_none h']
theorem wpAnyT_first {n : Nat} (hn : n < ops.size) (hc : coverB md ops n = true) {B : Array Bool → Act → Prop} (hB : ∀ L a, B L a → ∀ j, j < n → L.getD j true = true) {i : Nat} {oi : Oper} {v : Value} (hin : i < n) (hi : ops[i]? = some oi) (hsel : ∀ (j : Nat) (o : Oper) cs b, ops[j]? = some o → o.op ≠ .select cs b) :
    ∀ (fuel : Nat) (listed : Array Bool) (a : Act), Listed md ops listed →
      (∀ j oj, ops[j]? = some oj → j ≠ i → listed.getD j true = false → (∀ e ∈ oj.after, Region.binds md e = true → e.on ≠ i) → oi.apart ops oj = true) →
      i ∈ Region.ready md ops listed → YieldsIn P ops C oi v a →
      wpAnyT P md ops C B fuel (listed.setIfInBounds i true) (a.put oi.dst v) → wpAnyT P md ops C B (fuel + 1) listed a := by
  intro fuel
  induction fuel with
  | zero =>
    intro listed a hL _ hr hy H
    refine ⟨fun h => (by rw [h] at hr; cases hr), fun j hj => ?_⟩
    by_cases hji : j = i
    · subst hji; exact hy.qOp hi H
    · exfalso
      have hu := (mem_ready.1 hj).1
      by_cases hjn : j < n
      · have := hB _ _ H j hjn
        rw [getD_set_ne true (Ne.symm hji)] at this
        rw [this] at hu; cases hu
      · have := getD_tf (ready_last hn hc hL hj (by omega) i hin)
        rw [(mem_ready.1 hr).1] at this; cases this
  | succ fuel ih =>
    intro listed a hL hfree hr hy H
    refine ⟨fun h => (by rw [h] at hr; cases hr), fun j hj => ?_⟩
    by_cases hji : j = i
    · subst hji; exact hy.qOp hi H
    · have h1 := H.2 j (ready_mono hj hji)
      obtain ⟨hjun, oj, hoj, hall⟩ := mem_ready.1 hj
      have hnot : ∀ e ∈ oj.after, Region.binds md e = true → e.on ≠ i := fun e he hb heq => by
        have h1 := hall e he hb
        have h0 := (mem_ready.1 hr).1
        rw [heq] at h1
        rw [getD_tf h1] at h0; cases h0
      have h2 := qOp_put hoj (hfree j oj hoj hji hjun hnot) (fun cs b => hsel i oi cs b hi) (fun cs b => hsel j oj cs b hoj) hy h1
      have hfree' : ∀ k ok, ops[k]? = some ok → k ≠ i → (listed.setIfInBounds j true).getD k true = false →
          (∀ e ∈ ok.after, Region.binds md e = true → e.on ≠ i) → oi.apart ops ok = true := fun k ok hk hki hun hno => by
        refine hfree k ok hk hki ?_ hno
        by_cases hjk : j = k
        · subst hjk; exact hjun
        · rw [getD_set_ne true hjk] at hun; exact hun
      refine qOp_mono (fun a' h3 => ih (listed.setIfInBounds j true) a' (hL.add hj) hfree' (ready_mono hr (Ne.symm hji)) h3.1 ?_) h2
      rw [Array.setIfInBounds_comm _ _ hji]
      exact h3.2
/-- The first operations, in the text's order. -/
def lexTo (md : Region.Mode) (ops : Array Oper) : Nat → Nat → Array Bool → Bool
  | 0, _, _ => true
  | fuel + 1, k, listed => (Region.ready md ops listed).contains k && Region.free md ops listed k && lexTo md ops fuel (k + 1) (listed.setIfInBounds k true)
def lexEnd : Nat → Nat → Array Bool → Array Bool
  | 0, _, listed => listed
  | fuel + 1, k, listed => lexEnd fuel (k + 1) (listed.setIfInBounds k true)
def tailB (md : Region.Mode) (ops : Array Oper) : Nat → Nat → Array Bool → Bool
  | 0, _, listed => (Region.ready md ops listed).isEmpty
  | fuel + 1, k, listed => decide (Region.ready md ops listed = [k]) && tailB md ops fuel (k + 1) (listed.setIfInBounds k true)
theorem lexEnd_keeps : ∀ (f k : Nat) (L : Array Bool) (j : Nat), L.getD j true = true → (lexEnd f k L).getD j true = true
  | 0, _, _, _, h => h
  | f + 1, k, L, j, h => by
    refine lexEnd_keeps f (k + 1) _ j ?_
    by_cases hk : k = j
    · subst hk
      simp only [Array.getD_eq_getD_getElem?]
      rcases Nat.lt_or_ge k L.size with h' | h'
      · simp [h']
      · simp [Array.getElem?_eq_none (show (L.setIfInBounds k true).size ≤ k by simpa using h')]
    · rw [getD_set_ne true hk]; exact h
theorem lexEnd_all : ∀ (f k : Nat) (L : Array Bool), (∀ j, j < k → L.getD j true = true) → ∀ j, j < k + f → (lexEnd f k L).getD j true = true
  | 0, _, _, h, j, hj => h j hj
  | f + 1, k, L, h, j, hj => by
    refine lexEnd_all f (k + 1) _ (fun i hi => ?_) j (by omega)
    by_cases hk : k = i
    · subst hk
      simp only [Array.getD_eq_getD_getElem?]
      rcases Nat.lt_or_ge k L.size with h' | h'
      · simp [h']
      · simp [Array.getElem?_eq_none (show (L.setIfInBounds k true).size ≤ k by simpa using h')]
    · rw [getD_set_ne true hk]; exact h i (by omega)
theorem wpAnyT_lex {n : Nat} (hn : n < ops.size) (hc : coverB md ops n = true) {Q : Act → Prop} (hs : Region.noSelect ops = true) : ∀ (l : List Oper) (k : Nat) (listed : Array Bool) (a : Act), (∀ j, j < l.length → l[j]? = ops[k + j]?) → k + l.length = n → Listed md ops listed → (∀ j, j < k → listed.getD j true = true) →
    lexTo md ops l.length k listed = true → wpQuiet P ops C Q l a → wpAnyT P md ops C (fun L a => (∀ j, j < n → L.getD j true = true) ∧ L = lexEnd l.length k listed ∧ Q a) l.length listed a
  | [], k, listed, _, _, hk, _, ha, _, h => ⟨fun j hj => ha j (by simp at hk; omega), rfl, h⟩
  | o :: l, k, listed, a, hl, hk, hL, ha, hB, h => by
    have h0 : ops[k]? = some o := by simpa using (hl 0 (by simp)).symm
    simp only [List.length_cons, lexTo, Bool.and_eq_true] at hB
    obtain ⟨⟨hr, hf⟩, hB'⟩ := hB
    have hr' : k ∈ Region.ready md ops listed := by simpa using hr
    have hst : qOp P ops C k (wpQuiet P ops C Q l) a := by unfold qOp; simp only [h0]; exact h
    obtain ⟨v, hy, hK⟩ := yieldsIn_of_qOp h0 hst
    refine wpAnyT_first hn hc (fun L a h => h.1) (by simp at hk; omega) h0 (Region.noSelect_spec hs) l.length listed a hL (Region.free_spec h0 hf) hr' hy ?_
    refine wpAnyT_lex hn hc hs l (k + 1) _ _ (fun j hj => by have := hl (j + 1) (by simp; omega); simpa [Nat.add_assoc, Nat.add_comm 1 j] using this) (by simp at hk; omega) (hL.add hr') (fun j hj => ?_) hB' hK
    by_cases hkj : k = j
    · subst hkj
      simp only [Array.getD_eq_getD_getElem?]
      rcases Nat.lt_or_ge k listed.size with h' | h'
      · simp [h']
      · simp [Array.getElem?_eq_none (show (listed.setIfInBounds k true).size ≤ k by simpa using h')]
    · rw [getD_set_ne true hkj]; exact ha j (by omega)
theorem wpAny_of_T {m : Nat} {B : Array Bool → Act → Prop} {Q' : Exit → Act → World → Prop} (hQ : ∀ L a w, C w → B L a → wpAny P md ops Q' m L a w) : ∀ (fuel : Nat) (listed : Array Bool) (a : Act) (w : World), C w →
    wpAnyT P md ops C B fuel listed a → wpAny P md ops Q' (fuel + m) listed a w
  | 0, L, a, w, hw, h => by rw [Nat.zero_add]; exact hQ _ _ _ hw h
  | fuel + 1, L, a, w, hw, h => by
    rw [show fuel + 1 + m = (fuel + m) + 1 by omega]
    exact ⟨fun h0 => absurd h0 h.1, fun i hi => wpOp_of_qOp hw (fun a' w' hw' => wpAny_of_T hQ fuel _ a' w' hw') (h.2 i hi)⟩
theorem wpAny_tail {Q : Exit → Act → World → Prop} : ∀ (l : List Oper) (k : Nat) (listed : Array Bool) (a : Act) (w : World), (∀ j, j < l.length → l[j]? = ops[k + j]?) → tailB md ops l.length k listed = true → wpList P ops Q l a w → wpAny P md ops Q l.length listed a w
  | [], _, _, _, _, _, hB, h => ⟨by simpa [tailB] using hB, h⟩
  | o :: l, k, listed, a, w, hl, hB, h => by
    simp only [List.length_cons, tailB, Bool.and_eq_true, decide_eq_true_eq] at hB
    have h0 : ops[k]? = some o := by simpa using (hl 0 (by simp)).symm
    have ih := fun a w => wpAny_tail (Q := Q) l (k + 1) (listed.setIfInBounds k true) a w (fun j hj => by have := hl (j + 1) (by simp; omega); simpa [Nat.add_assoc, Nat.add_comm 1 j] using this) hB.2
    refine ⟨fun h => (by rw [hB.1] at h; cases h), fun i hi => ?_⟩
    rw [hB.1] at hi
    obtain rfl : i = k := by simpa using hi
    unfold wpOp
    simp only [h0]
    unfold wpList at h
    split
    · rename_i hw
      rw [if_pos hw] at h
      exact h.imp (Oper.wp_mono ih) id
    · rename_i hw
      rw [if_neg hw] at h
      exact ih _ _ h
def sinkB (md : Region.Mode) (ops : Array Oper) (n : Nat) : Bool :=
  Region.noSelect ops && decide (n < ops.size) && coverB md ops n && lexTo md ops n 0 (Array.replicate ops.size false) && tailB md ops (ops.size - n) n (lexEnd n 0 (Array.replicate ops.size false))
theorem getD_rep (m j : Nat) : (Array.replicate m false).getD j false = false := by
  simp only [Array.getD_eq_getD_getElem?, Array.getElem?_replicate]; split <;> rfl
theorem wp_region_sink {id : Nat} {Q : Exit → Act → World → Prop} {a : Act} {w : World} {l : List Oper} (n : Nat) (hm : P.follows .mixedOrders = true) (hB : sinkB .any l.toArray n = true) (hC : C { w with drawn := w.drawn + 1 })
    (h : wpQuiet P l.toArray C (fun a' => ∀ w', C w' → wpList P l.toArray Q (l.drop n) a' w') (l.take n) a) : (Code.region id l.toArray true).wp P Q a w := by
  simp only [sinkB, Bool.and_eq_true, decide_eq_true_eq] at hB
  obtain ⟨⟨⟨⟨hs, hn⟩, hc⟩, hx⟩, ht⟩ := hB
  have hnl : n < l.length := by simpa using hn
  have htk : (l.take n).length = n := by rw [List.length_take]; omega
  have hdr : (l.drop n).length = l.length - n := List.length_drop
  refine wp_region_any hm ?_
  have h1 := wpAnyT_lex (md := .any) hn hc hs (l.take n) 0 (Array.replicate l.toArray.size false) a (fun j hj => by
      rw [htk] at hj
      simp [hj]) (by rw [htk]; omega) (fun j i hj _ => by rw [getD_rep] at hj; cases hj) (fun j hj => absurd hj (by omega)) (by rw [htk]; exact hx) h
  rw [htk] at h1
  have h2 := wpAny_of_T (m := l.length - n) (Q' := Q) (fun L a w hw hL => by
    obtain ⟨_, rfl, hq⟩ := hL
    have := wpAny_tail (md := .any) (l.drop n) n (lexEnd n 0 (Array.replicate l.toArray.size false)) a w (fun j hj => by simp [List.getElem?_drop]) (by rw [hdr]; simpa using ht) (hq w hw)
    rw [hdr] at this
    exact this) n _ a _ hC h1
  rw [show n + (l.length - n) = l.toArray.size by simp; omega] at h2
  exact h2
/-- The same, of calls that lay blocks of their own. -/
theorem wp_region_sink_below {id : Nat} {Q : Exit → Act → World → Prop} {a : Act} {w : World} {l : List Oper} (n : Nat) (hm : P.follows .mixedOrders = true) (hB : sinkB .any l.toArray n = true)
    (h : wpQuiet P l.toArray (fun w' => ∃ p : Regrown, w' = grow (redrawn w p.d) p.os) (fun a' => ∀ w', (∃ p : Regrown, w' = grow (redrawn w p.d) p.os) → wpList P l.toArray Q (l.drop n) a' w') (l.take n) a) : (Code.region id l.toArray true).wp P Q a w :=
  wp_region_sink (C := fun w' => ∃ p : Regrown, w' = grow (redrawn w p.d) p.os) n hm hB ⟨⟨w.drawn + 1, #[]⟩, by rw [grow_empty]; rfl⟩ h
end
end Go.Proofs.Ytljpiofpfankoaa
