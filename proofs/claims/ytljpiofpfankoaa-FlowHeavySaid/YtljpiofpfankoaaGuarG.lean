/-
  Drawn regions by assume and guarantee, with guards that are known to hold ('&&' chains that are true throughout, with slices built and converted). Conditions: what an operation waits for, and its guard, stand ahead of it.
-/
import Derived.Test.YtljpiofpfankoaaGuarT
namespace Go.Proofs.Ytljpiofpfankoaa
open Go.RowKit Go.Sort
set_option linter.unusedVariables false
set_option linter.unusedSimpArgs false
section
variable {P : Program} {ops : Array Oper}
def guarGB (ops : Array Oper) (size : Nat) : Bool :=
  (List.range ops.size).all fun i => match ops[i]? with
    | some o => (waits .any ops i).all (fun j => decide (j < i)) && (match o.dst with | some d => decide (d < size) && (List.range i).all (fun j => match ops[j]? with | some q => decide (q.dst ≠ some d) | none => true) | none => true)
    | none => true
/-- Each guard is told true ahead. -/
def guardsB (ops : Array Oper) (S : List Sp) : Bool :=
  (List.range ops.size).all fun i => match ops[i]? with
    | some o => match o.guard with
      | none => true
      | some (g, b) => (waits .any ops i).contains g && (match S[g]? with | some (.val (.bool c)) => c == b | _ => false) && (match ops[g]? with | some q => q.dst.isSome | none => false)
    | none => true
structure GuarG (ops : Array Oper) (size : Nat) : Prop where
  ahead : ∀ (i : Nat) (o : Oper), ops[i]? = some o → ∀ j ∈ waits .any ops i, j < i
  slot : ∀ (i : Nat) (o : Oper) (d : Tmp), ops[i]? = some o → o.dst = some d → d < size
  apart : ∀ (i : Nat) (o : Oper) (d : Tmp) (j : Nat) (q : Oper), ops[i]? = some o → o.dst = some d → j ≠ i → ops[j]? = some q → q.dst ≠ some d
theorem guarG_spec {size : Nat} (h : guarGB ops size = true) : GuarG ops size := by
  have key : ∀ (i : Nat) (o : Oper), ops[i]? = some o → (∀ j ∈ waits .any ops i, j < i) ∧ ∀ d, o.dst = some d → d < size ∧ ∀ (j : Nat) (q : Oper), j < i → ops[j]? = some q → q.dst ≠ some d := by
    intro i o ho
    have hi := (Array.getElem?_eq_some_iff.1 ho).1
    have := List.all_eq_true.1 h i (List.mem_range.2 hi)
    simp only [ho, Bool.and_eq_true] at this
    obtain ⟨h2, h3⟩ := this
    refine ⟨fun j hj => by simpa using List.all_eq_true.1 h2 j hj, fun d hd => ?_⟩
    rw [hd] at h3
    simp only [Bool.and_eq_true, decide_eq_true_eq] at h3
    refine ⟨h3.1, fun j q hj hq => ?_⟩
    have := List.all_eq_true.1 h3.2 j (List.mem_range.2 hj)
    simp only [hq] at this
    simpa using this
  refine ⟨fun i o ho => (key i o ho).1, fun i o d ho hd => ((key i o ho).2 d hd).1, fun i o d j q ho hd hji hq hqd => ?_⟩
  rcases Nat.lt_or_gt_of_ne hji with hlt | hgt
  · exact ((key i o ho).2 d hd).2 j q hlt hq hqd
  · exact ((key j q hq).2 d hqd).2 i o hgt ho hd
theorem wpAny_guarG {V : Nat → Value → World → Prop} {a0 : Act} {w0 : World} {Q : Exit → Act → World → Prop} (S : GuarG ops a0.tmps.size)
    (hV : ∀ i v w w', V i v w → Below w.heap.size w w' → V i v w')
    (hwant : ∀ (i : Nat) (o : Oper), ops[i]? = some o → ∀ L a w, GInv ops V a0 w0 L a w → (∀ j ∈ waits .any ops i, L.getD j false = true) → Region.wanted o (yielded ops a.tmps) = true)
    (hstep : ∀ (i : Nat) (o : Oper), ops[i]? = some o → ∀ L a w, GInv ops V a0 w0 L a w → (∀ j ∈ waits .any ops i, L.getD j false = true) →
      o.wp P a w (fun a' w' => ∃ v, a' = a.put o.dst v ∧ (∀ d, o.dst = some d → V i v w') ∧ Below w.heap.size w w') Q)
    (hend : ∀ L a w, GInv ops V a0 w0 L a w → (∀ i, i < ops.size → L.getD i false = true) → Q .normal a w) :
    ∀ (fuel : Nat) (L : Array Bool) (a : Act) (w : World), GInv ops V a0 w0 L a w → unl L ops.size = fuel → wpAny P .any ops Q fuel L a w
  | 0, L, a, w, I, hu => by
    have hall := unl_zero _ hu
    refine ⟨?_, hend L a w I hall⟩
    cases hr : Region.ready .any ops L with
    | nil => rfl
    | cons i r =>
      exfalso
      have hi : i ∈ Region.ready .any ops L := by rw [hr]; exact List.mem_cons_self ..
      have h1 := (mem_ready.1 hi).1
      rw [getD_tf (hall i (ready_lt hi))] at h1; cases h1
  | fuel + 1, L, a, w, I, hu => by
    constructor
    · intro h0
      exfalso
      have : ∀ n i, i < n → i < ops.size → L.getD i false = true := by
        intro n
        induction n with
        | zero => intro i hi; omega
        | succ n ih =>
          intro i hi hs
          by_cases hb : L.getD i false = true
          · exact hb
          · exfalso
            have hf : L.getD i true = false := by
              have hlt : i < L.size := by rw [I.size]; exact hs
              simp only [Array.getD_eq_getD_getElem?] at *
              simpa [hlt] using hb
            have hr : i ∈ Region.ready .any ops L := by
              refine mem_ready.2 ⟨hf, ops[i], Array.getElem?_eq_getElem hs, fun e he hbd => ?_⟩
              have hw : e.on ∈ waits .any ops i := by
                unfold waits; rw [Array.getElem?_eq_getElem hs]
                exact List.mem_map.2 ⟨e, List.mem_filter.2 ⟨by simpa using he, hbd⟩, rfl⟩
              have hlt := S.ahead i _ (Array.getElem?_eq_getElem hs) _ hw
              exact ih e.on (by omega) (by omega)
            rw [h0] at hr; cases hr
      have hz : ∀ k, k ≤ ops.size → unl L k = 0 := by
        intro k
        induction k with
        | zero => intro _; rfl
        | succ k ih => intro hk; unfold unl; rw [ih (by omega), this (k + 1) k (by omega) (by omega)]; rfl
      rw [hz _ (Nat.le_refl _)] at hu; omega
    · intro i hi
      obtain ⟨hun, o, ho, hall⟩ := mem_ready.1 hi
      have his := ready_lt hi
      have hL : i < L.size := by rw [I.size]; exact his
      have hunf : L.getD i false = false := by
        simp only [Array.getD_eq_getD_getElem?] at *
        simpa [hL] using hun
      have hd : ∀ j ∈ waits .any ops i, L.getD j false = true := fun j hj => ready_waits hi hj
      unfold wpOp
      simp only [ho]
      rw [if_pos (hwant i o ho L a w I hd)]
      left
      refine Oper.wp_mono ?_ (hstep i o ho L a w I hd)
      rintro a' w' ⟨v, rfl, hv, hb⟩
      refine wpAny_guarG S hV hwant hstep hend fuel _ _ _ ?_ (by have := unl_set hL hunf ops.size his; omega)
      refine ⟨by simp [I.size], I.listed.add hi, ?_, ?_, ?_, I.below.trans (hb.mono I.below.size)⟩
      · intro j q d hq hj hqd
        by_cases hji : j = i
        · subst hji
          rw [ho] at hq; cases hq
          have hds := S.slot j o d ho hqd
          rw [← I.frame.1] at hds
          have : (a.put o.dst v).tmps.getD d undef = v := by
            rw [hqd]; simp [Act.put, Array.getD_eq_getD_getElem?, hds]
          rw [this]; exact hv d hqd
        · rw [getD_set_ne false (Ne.symm hji)] at hj
          have h1 := hV j _ w w' (I.told j q d hq hj hqd) hb
          have : (a.put o.dst v).tmps.getD d undef = a.tmps.getD d undef := by
            cases hod : o.dst with
            | none => rfl
            | some e =>
              have hne : e ≠ d := fun h => S.apart i o e j q ho hod hji hq (by rw [hqd, h])
              simp [Act.put, Array.getD_eq_getD_getElem?, Array.getElem?_setIfInBounds_ne hne]
          rw [this]; exact h1
      · intro t ht
        have h1 := I.else_ t ht
        rw [← h1]
        cases hod : o.dst with
        | none => rfl
        | some e =>
          have hne : e ≠ t := fun h => ht i o ho (by rw [hod, h])
          simp [Act.put, Array.getD_eq_getD_getElem?, Array.getElem?_setIfInBounds_ne hne]
      · cases hod : o.dst with
        | none => exact I.frame
        | some e => exact ⟨by simp [Act.put, I.frame.1], I.frame.2⟩
theorem guards_wanted {S : List Sp} {a0 : Act} {w0 : World} (hg : guardsB ops S = true) (i : Nat) (o : Oper) (ho : ops[i]? = some o) (L : Array Bool) (a : Act) (w : World) (I : GInv ops (spV S) a0 w0 L a w) (hd : ∀ j ∈ waits .any ops i, L.getD j false = true) : Region.wanted o (yielded ops a.tmps) = true := by
  have hi := (Array.getElem?_eq_some_iff.1 ho).1
  have h := List.all_eq_true.1 hg i (List.mem_range.2 hi)
  simp only [ho] at h
  unfold Region.wanted
  cases hgd : o.guard with
  | none => rfl
  | some gb =>
    obtain ⟨g, b⟩ := gb
    rw [hgd] at h
    simp only [Bool.and_eq_true] at h
    obtain ⟨⟨h1, h2⟩, h3⟩ := h
    cases hq : ops[g]? with
    | none => rw [hq] at h3; cases h3
    | some q =>
      have h3 : q.dst.isSome = true := by rw [hq] at h3; exact h3
      cases hqd : q.dst with
      | none => rw [hqd] at h3; cases h3
      | some d =>
        cases hs : S[g]? with
        | none => rw [hs] at h2; cases h2
        | some s =>
          rw [hs] at h2
          have ht := I.told g q d hq (hd g (by simpa using h1)) hqd
          unfold spV at ht
          rw [hs] at ht
          cases s with
          | cells cs t => cases h2
          | val x =>
            cases x <;> first | (cases h2; done) | skip
            rename_i c
            have hx : a.tmps.getD d undef = .bool c := ht
            have hcb : (c == b) = true := h2
            have hsome : a.tmps[d]? = some (.bool c) := by
              rw [Array.getD_eq_getD_getElem?] at hx
              cases hh : a.tmps[d]? with
              | none => rw [hh] at hx; cases hx
              | some y => rw [hh] at hx; simp at hx; rw [hx]
            have hy : yielded ops a.tmps g = some c := by
              unfold yielded
              simp [hq, hqd, hsome]
            show (yielded ops a.tmps g == some b) = true
            rw [hy, beq_iff_eq.1 hcb]
            simp
theorem wp_region_guarG {id : Nat} {Q : Exit → Act → World → Prop} {a0 : Act} {w0 : World} {l : List Oper} (S : List Sp) (hm : P.follows .mixedOrders = true) (hB : guarGB l.toArray a0.tmps.size = true) (hG : guardsB l.toArray S = true)
    (hs : StepsG P l.toArray S a0 { w0 with drawn := w0.drawn + 1 } Q l 0)
    (hend : ∀ a w, Below w0.heap.size w0 w → (∀ (j : Nat) (q : Oper) (t : Tmp), l.toArray[j]? = some q → q.dst = some t → spV S j (a.eval (.tmp t)) w) → (∀ t : Tmp, offB l.toArray t = true → a.eval (.tmp t) = a0.eval (.tmp t)) → a.tmps.size = a0.tmps.size → a.defers = a0.defers → Q .normal a w) : (Code.region id l.toArray true).wp P Q a0 w0 := by
  refine wp_region_any hm ?_
  have hdr : Below w0.heap.size w0 { w0 with drawn := w0.drawn + 1 } := Below.drew (Below.refl _ _)
  refine wpAny_guarG (V := spV S) (a0 := a0) (w0 := { w0 with drawn := w0.drawn + 1 }) (guarG_spec hB) (fun i v w w' => spV_below i v w w') (fun i o ho L a w I hd => guards_wanted hG i o ho L a w I hd) ?_ ?_ _ _ _ _ ?_ (unl_rep _ _)
  · intro i o ho L a w I hd
    have := stepsG_at l 0 hs i o (by simpa using ho) a w (by
      rw [Nat.zero_add]
      refine ⟨fun j q t hj hq ht => ?_, fun t ht => ?_, I.below⟩
      · exact I.told j q t hq (hd j (by simpa using hj)) ht
      · exact I.else_ t (fun i o ho => off_spec ht i o ho))
    simpa using this
  · intro L a w I hall
    refine hend a w ?_ (fun j q t hq ht => I.told j q t hq (hall j (Array.getElem?_eq_some_iff.1 hq).1) ht) (fun t ht => I.else_ t (fun i o ho => off_spec ht i o ho)) I.frame.1 I.frame.2
    exact hdr.trans I.below
  · refine ⟨by simp, (fun j i hj _ => by rw [getD_rep] at hj; cases hj), (fun i o d _ h _ => by rw [getD_rep] at h; cases h), fun t _ => rfl, ⟨rfl, rfl⟩, Below.refl _ _⟩
end
end Go.Proofs.Ytljpiofpfankoaa
