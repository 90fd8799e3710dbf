/-
  A region that draws its order, by assume and guarantee: each operation, what it waits for being as it is told, makes what is told of it; at its end all is as it is told, whatever the order. Conditions: no guards, and what an operation waits for stands ahead of it.
-/
import Derived.Test.YtljpiofpfankoaaSink
namespace Go.Proofs.Ytljpiofpfankoaa
open Go.RowKit Go.Sort
set_option linter.unusedVariables false
set_option linter.unusedSimpArgs false
section
variable {P : Program} {ops : Array Oper}
/-- How many operations have not come up yet. -/
def unl (L : Array Bool) : Nat → Nat
  | 0 => 0
  | k + 1 => unl L k + (if L.getD k false then 0 else 1)
theorem unl_set_ge {L : Array Bool} {i : Nat} : ∀ k, k ≤ i → unl (L.setIfInBounds i true) k = unl L k
  | 0, _ => rfl
  | k + 1, h => by unfold unl; rw [unl_set_ge k (by omega), getD_set_ne false (by omega)]
theorem getD_set_self {L : Array Bool} {i : Nat} (h : i < L.size) : (L.setIfInBounds i true).getD i false = true := by
  simp [Array.getD_eq_getD_getElem?, h]
theorem unl_set {L : Array Bool} {i : Nat} (hs : i < L.size) (h : L.getD i false = false) : ∀ k, i < k → unl (L.setIfInBounds i true) k + 1 = unl L k
  | 0, hk => by omega
  | k + 1, hk => by
    unfold unl
    by_cases e : i = k
    · subst e
      rw [unl_set_ge i (Nat.le_refl _), getD_set_self hs, h]; simp
    · have := unl_set hs h k (by omega)
      rw [getD_set_ne false e]; omega
theorem unl_zero {L : Array Bool} : ∀ k, unl L k = 0 → ∀ i, i < k → L.getD i false = true
  | 0, _, i, hi => by omega
  | k + 1, h, i, hi => by
    unfold unl at h
    by_cases e : i = k
    · subst e
      by_cases hb : L.getD i false = true
      · exact hb
      · rw [if_neg hb] at h; omega
    · exact unl_zero k (by omega) i (by omega)
theorem unl_rep (m : Nat) : ∀ k, unl (Array.replicate m false) k = k
  | 0 => rfl
  | k + 1 => by unfold unl; rw [unl_rep m k, getD_rep]; simp
/-- No guards; what an operation waits for stands ahead of it; no two operations write the same slot, and each slot is there. -/
def guarB (ops : Array Oper) (size : Nat) : Bool :=
  (List.range ops.size).all fun i => match ops[i]? with
    | some o => o.guard.isNone && (waits .any ops i).all (fun j => decide (j < i)) && (match o.dst with | some d => decide (d < size) && (List.range i).all (fun j => match ops[j]? with | some q => decide (q.dst ≠ some d) | none => true) | none => true)
    | none => true
structure GuarS (ops : Array Oper) (size : Nat) : Prop where
  guard : ∀ (i : Nat) (o : Oper), ops[i]? = some o → o.guard = none
  ahead : ∀ (i : Nat) (o : Oper), ops[i]? = some o → ∀ j ∈ waits .any ops i, j < i
  slot : ∀ (i : Nat) (o : Oper) (d : Tmp), ops[i]? = some o → o.dst = some d → d < size
  apart : ∀ (i : Nat) (o : Oper) (d : Tmp) (j : Nat) (q : Oper), ops[i]? = some o → o.dst = some d → j ≠ i → ops[j]? = some q → q.dst ≠ some d
theorem guar_spec {size : Nat} (h : guarB ops size = true) : GuarS ops size := by
  have key : ∀ (i : Nat) (o : Oper), ops[i]? = some o → o.guard = none ∧ (∀ j ∈ waits .any ops i, j < i) ∧ ∀ d, o.dst = some d → d < size ∧ ∀ (j : Nat) (q : Oper), j < i → ops[j]? = some q → q.dst ≠ some d := by
    intro i o ho
    have hi := (Array.getElem?_eq_some_iff.1 ho).1
    have := List.all_eq_true.1 h i (List.mem_range.2 hi)
    simp only [ho, Bool.and_eq_true] at this
    obtain ⟨⟨h1, h2⟩, h3⟩ := this
    refine ⟨by simpa using h1, fun j hj => by simpa using List.all_eq_true.1 h2 j hj, fun d hd => ?_⟩
    rw [hd] at h3
    simp only [Bool.and_eq_true, decide_eq_true_eq] at h3
    refine ⟨h3.1, fun j q hj hq => ?_⟩
    have := List.all_eq_true.1 h3.2 j (List.mem_range.2 hj)
    simp only [hq] at this
    simpa using this
  refine ⟨fun i o ho => (key i o ho).1, fun i o ho => (key i o ho).2.1, fun i o d ho hd => ((key i o ho).2.2 d hd).1, fun i o d j q ho hd hji hq hqd => ?_⟩
  rcases Nat.lt_or_gt_of_ne hji with hlt | hgt
  · exact ((key i o ho).2.2 d hd).2 j q hlt hq hqd
  · exact ((key j q hq).2.2 d hqd).2 i o hgt ho hd
/-- What holds of a frame and a world when the operations of L have come up. -/
structure GInv (ops : Array Oper) (V : Nat → Value → World → Prop) (a0 : Act) (w0 : World) (L : Array Bool) (a : Act) (w : World) : Prop where
  size : L.size = ops.size
  listed : Listed .any ops L
  told : ∀ (i : Nat) (o : Oper) (d : Tmp), ops[i]? = some o → L.getD i false = true → o.dst = some d → V i (a.tmps.getD d undef) w
  else_ : ∀ (t : Tmp), (∀ (i : Nat) (o : Oper), ops[i]? = some o → o.dst ≠ some t) → a.tmps.getD t undef = a0.tmps.getD t undef
  frame : a.tmps.size = a0.tmps.size ∧ a.defers = a0.defers
  below : Below w0.heap.size w0 w
theorem wpAny_guar {V : Nat → Value → World → Prop} {a0 : Act} {w0 : World} {Q : Exit → Act → World → Prop} (S : GuarS ops a0.tmps.size)
    (hV : ∀ i v w w', V i v w → Below w.heap.size w w' → V i v w')
    (hstep : ∀ (i : Nat) (o : Oper), ops[i]? = some o → ∀ L a w, GInv ops V a0 w0 L a w → (∀ j ∈ waits .any ops i, L.getD j false = true) →
      o.wp P a w (fun a' w' => ∃ v, a' = a.put o.dst v ∧ (∀ d, o.dst = some d → V i v w') ∧ Below w.heap.size w w') Q)
    (hend : ∀ L a w, GInv ops V a0 w0 L a w → (∀ i, i < ops.size → L.getD i false = true) → Q .normal a w) :
    ∀ (fuel : Nat) (L : Array Bool) (a : Act) (w : World), GInv ops V a0 w0 L a w → unl L ops.size = fuel → wpAny P .any ops Q fuel L a w
  | 0, L, a, w, I, hu => by
    have hall := unl_zero _ hu
    refine ⟨?_, hend L a w I hall⟩
    cases hr : Region.ready .any ops L with
    | nil => rfl
    | cons i r =>
      exfalso
      have hi : i ∈ Region.ready .any ops L := by rw [hr]; exact List.mem_cons_self ..
      have h1 := (mem_ready.1 hi).1
      rw [getD_tf (hall i (ready_lt hi))] at h1; cases h1
  | fuel + 1, L, a, w, I, hu => by
    constructor
    · intro h0
      exfalso
      -- the least that has not come up is ready
      have : ∀ n i, i < n → i < ops.size → L.getD i false = true := by
        intro n
        induction n with
        | zero => intro i hi; omega
        | succ n ih =>
          intro i hi hs
          by_cases hb : L.getD i false = true
          · exact hb
          · exfalso
            have hf : L.getD i true = false := by
              have hlt : i < L.size := by rw [I.size]; exact hs
              simp only [Array.getD_eq_getD_getElem?] at *
              simpa [hlt] using hb
            have hr : i ∈ Region.ready .any ops L := by
              refine mem_ready.2 ⟨hf, ops[i], Array.getElem?_eq_getElem hs, fun e he hbd => ?_⟩
              have hw : e.on ∈ waits .any ops i := by
                unfold waits; rw [Array.getElem?_eq_getElem hs]
                exact List.mem_map.2 ⟨e, List.mem_filter.2 ⟨by simpa using he, hbd⟩, rfl⟩
              have hlt := S.ahead i _ (Array.getElem?_eq_getElem hs) _ hw
              exact ih e.on (by omega) (by omega)
            rw [h0] at hr; cases hr
      have hz : ∀ k, k ≤ ops.size → unl L k = 0 := by
        intro k
        induction k with
        | zero => intro _; rfl
        | succ k ih => intro hk; unfold unl; rw [ih (by omega), this (k + 1) k (by omega) (by omega)]; rfl
      rw [hz _ (Nat.le_refl _)] at hu; omega
    · intro i hi
      obtain ⟨hun, o, ho, hall⟩ := mem_ready.1 hi
      have his := ready_lt hi
      have hL : i < L.size := by rw [I.size]; exact his
      have hunf : L.getD i false = false := by
        simp only [Array.getD_eq_getD_getElem?] at *
        simpa [hL] using hun
      have hd : ∀ j ∈ waits .any ops i, L.getD j false = true := fun j hj => ready_waits hi hj
      unfold wpOp
      simp only [ho]
      rw [if_pos (by simp [Region.wanted, S.guard i o ho])]
      left
      refine Oper.wp_mono ?_ (hstep i o ho L a w I hd)
      rintro a' w' ⟨v, rfl, hv, hb⟩
      refine wpAny_guar S hV hstep hend fuel _ _ _ ?_ (by have := unl_set hL hunf ops.size his; omega)
      refine ⟨by simp [I.size], I.listed.add hi, ?_, ?_, ?_, I.below.trans (hb.mono I.below.size)⟩
      · intro j q d hq hj hqd
        by_cases hji : j = i
        · subst hji
          rw [ho] at hq; cases hq
          have hds := S.slot j o d ho hqd
          rw [← I.frame.1] at hds
          have : (a.put o.dst v).tmps.getD d undef = v := by
            rw [hqd]; simp [Act.put, Array.getD_eq_getD_getElem?, hds]
          rw [this]; exact hv d hqd
        · rw [getD_set_ne false (Ne.symm hji)] at hj
          have h1 := hV j _ w w' (I.told j q d hq hj hqd) hb
          have : (a.put o.dst v).tmps.getD d undef = a.tmps.getD d undef := by
            cases hod : o.dst with
            | none => rfl
            | some e =>
              have hne : e ≠ d := fun h => S.apart i o e j q ho hod hji hq (by rw [hqd, h])
              simp [Act.put, Array.getD_eq_getD_getElem?, Array.getElem?_setIfInBounds_ne hne]
          rw [this]; exact h1
      · intro t ht
        have h1 := I.else_ t ht
        rw [← h1]
        cases hod : o.dst with
        | none => rfl
        | some e =>
          have hne : e ≠ t := fun h => ht i o ho (by rw [hod, h])
          simp [Act.put, Array.getD_eq_getD_getElem?, Array.getElem?_setIfInBounds_ne hne]
      · cases hod : o.dst with
        | none => exact I.frame
        | some e => exact ⟨by simp [Act.put, I.frame.1], I.frame.2⟩
/-- What is told of an operation's value: this value; or a slice of a block that holds just these cells. -/
inductive Sp where
  | val (v : Value)
  | cells (cs : Array Value) (t : TypeId)
def Sp.V (w : World) (v : Value) : Sp → Prop
  | .val x => v = x
  | .cells cs t => ∃ b, v = .slice (some ⟨b, 0, none⟩) cs.size cs.size ∧ Blk w b cs t
def spV (S : List Sp) (i : Nat) (v : Value) (w : World) : Prop := match S[i]? with
  | some s => s.V w v
  | none => True
theorem spV_below {S : List Sp} (i : Nat) (v : Value) (w w' : World) (h : spV S i v w) (hb : Below w.heap.size w w') : spV S i v w' := by
  unfold spV at *
  cases hs : S[i]? with
  | none => trivial
  | some s =>
    rw [hs] at h
    cases s with
    | val x => exact h
    | cells cs t => obtain ⟨b, e, hB⟩ := h; exact ⟨b, e, Blk.below hB hb hB.size⟩
/-- No operation writes the slot. -/
def offB (ops : Array Oper) (t : Tmp) : Bool := ops.toList.all fun (o : Oper) => decide (o.dst ≠ some t)
structure GCtx (ops : Array Oper) (S : List Sp) (a0 : Act) (w0 : World) (k : Nat) (a : Act) (w : World) : Prop where
  dep : ∀ (j : Nat) (q : Oper) (t : Tmp), (waits .any ops k).contains j = true → ops[j]? = some q → q.dst = some t → spV S j (a.eval (.tmp t)) w
  off : ∀ t : Tmp, offB ops t = true → a.eval (.tmp t) = a0.eval (.tmp t)
  below : Below w0.heap.size w0 w
def StepsG (P : Program) (ops : Array Oper) (S : List Sp) (a0 : Act) (w0 : World) (Q : Exit → Act → World → Prop) : List Oper → Nat → Prop
  | [], _ => True
  | o :: r, k => (∀ a w, GCtx ops S a0 w0 k a w → o.wp P a w (fun a' w' => ∃ v, a' = a.put o.dst v ∧ (∀ d, o.dst = some d → spV S k v w') ∧ Below w.heap.size w w') Q) ∧ StepsG P ops S a0 w0 Q r (k + 1)
theorem stepsG_at {S : List Sp} {a0 : Act} {w0 : World} {Q : Exit → Act → World → Prop} : ∀ (l : List Oper) (k : Nat), StepsG P ops S a0 w0 Q l k → ∀ i o, l[i]? = some o → ∀ a w, GCtx ops S a0 w0 (k + i) a w → o.wp P a w (fun a' w' => ∃ v, a' = a.put o.dst v ∧ (∀ d, o.dst = some d → spV S (k + i) v w') ∧ Below w.heap.size w w') Q
  | [], _, _, i, o, h, _, _, _ => by simp at h
  | q :: r, k, hs, 0, o, h, a, w, c => by simp at h; subst h; exact hs.1 a w c
  | q :: r, k, hs, i + 1, o, h, a, w, c => by
    have e : k + (i + 1) = (k + 1) + i := by omega
    rw [e] at c ⊢
    exact stepsG_at r (k + 1) hs.2 i o (by simpa using h) a w c
theorem eval_tmp (a : Act) (t : Tmp) : a.eval (.tmp t) = a.tmps.getD t undef := rfl
theorem eval_opt (a : Act) (t : Tmp) : a.tmps[t]?.getD undef = a.eval (.tmp t) := by rw [eval_tmp, Array.getD_eq_getD_getElem?]
theorem off_spec {t : Tmp} (h : offB ops t = true) (i : Nat) (o : Oper) (ho : ops[i]? = some o) : o.dst ≠ some t := by
  have := List.all_eq_true.1 h o (by simpa using Array.mem_of_getElem? ho)
  simpa using this
/-- The law. -/
theorem wp_region_guar {id : Nat} {Q : Exit → Act → World → Prop} {a0 : Act} {w0 : World} {l : List Oper} (S : List Sp) (hm : P.follows .mixedOrders = true) (hB : guarB l.toArray a0.tmps.size = true)
    (hs : StepsG P l.toArray S a0 { w0 with drawn := w0.drawn + 1 } Q l 0)
    (hend : ∀ a w, Below w0.heap.size w0 w → (∀ (j : Nat) (q : Oper) (t : Tmp), l.toArray[j]? = some q → q.dst = some t → spV S j (a.eval (.tmp t)) w) → (∀ t : Tmp, offB l.toArray t = true → a.eval (.tmp t) = a0.eval (.tmp t)) → a.tmps.size = a0.tmps.size → a.defers = a0.defers → Q .normal a w) : (Code.region id l.toArray true).wp P Q a0 w0 := by
  refine wp_region_any hm ?_
  have hdr : Below w0.heap.size w0 { w0 with drawn := w0.drawn + 1 } := Below.drew (Below.refl _ _)
  refine wpAny_guar (V := spV S) (a0 := a0) (w0 := { w0 with drawn := w0.drawn + 1 }) (guar_spec hB) (fun i v w w' => spV_below i v w w') ?_ ?_ _ _ _ _ ?_ (unl_rep _ _)
  · intro i o ho L a w I hd
    have := stepsG_at l 0 hs i o (by simpa using ho) a w (by
      rw [Nat.zero_add]
      refine ⟨fun j q t hj hq ht => ?_, fun t ht => ?_, I.below⟩
      · exact I.told j q t hq (hd j (by simpa using hj)) ht
      · exact I.else_ t (fun i o ho => off_spec ht i o ho))
    simpa using this
  · intro L a w I hall
    refine hend a w ?_ (fun j q t hq ht => I.told j q t hq (hall j (Array.getElem?_eq_some_iff.1 hq).1) ht) (fun t ht => I.else_ t (fun i o ho => off_spec ht i o ho)) I.frame.1 I.frame.2
    exact hdr.trans I.below
  · refine ⟨by simp, (fun j i hj _ => by rw [getD_rep] at hj; cases hj), (fun i o d _ h _ => by rw [getD_rep] at h; cases h), fun t _ => rfl, ⟨rfl, rfl⟩, Below.refl _ _⟩
/-- A frame out of its slots. -/
theorem frame_eta (a : Act) (n : Nat) (h : a.tmps.size = n) : a = ⟨((List.range n).map fun t => a.eval (.tmp t)).toArray, a.defers⟩ := by
  obtain ⟨tmps, defers⟩ := a
  simp only at h
  congr 1
  apply Array.ext
  · simp [h]
  · intro i h1 h2
    simp [eval_tmp, Array.getD_eq_getD_getElem?, h1]
/-- An operation that reads. -/
theorem gval {S : List Sp} {k : Nat} {o : Oper} {a : Act} {w : World} {Q : Exit → Act → World → Prop} (v : Value) (h : (execOp a.eval o).run P w = .ok (.value v) w) (hv : spV S k v w) : o.wp P a w (fun a' w' => ∃ v, a' = a.put o.dst v ∧ (∀ d, o.dst = some d → spV S k v w') ∧ Below w.heap.size w w') Q := by
  unfold Oper.wp; rw [h]; exact ⟨v, rfl, fun _ _ => hv, Below.refl _ _⟩
/-- A call. -/
theorem gcall {S : List Sp} {k : Nat} {o : Oper} {a : Act} {w : World} {Q : Exit → Act → World → Prop} (v : Value) (f : FuncId) (args : Array Value) (h : (execOp a.eval o).run P w = .ok (.enter f args) w) (hc : Calls P f args w fun e w' => e = .returned v ∧ Below w.heap.size w w') (hv : ∀ w', spV S k v w') : o.wp P a w (fun a' w' => ∃ v, a' = a.put o.dst v ∧ (∀ d, o.dst = some d → spV S k v w') ∧ Below w.heap.size w w') Q := by
  unfold Oper.wp; rw [h]
  refine hc.mono ?_
  rintro e w' ⟨rfl, hb⟩
  exact ⟨v, rfl, fun _ _ => hv w', hb⟩
/-- A slice that is built. -/
theorem gslice {S : List Sp} {k : Nat} {o : Oper} {a : Act} {w : World} {Q : Exit → Act → World → Prop} (cs : Array Value) (t : TypeId) (hS : S[k]? = some (.cells cs t)) (h : (execOp a.eval o).run P w = .ok (.value (.slice (some ⟨w.heap.size, 0, none⟩) cs.size cs.size)) (w.alloc (.cells cs t))) : o.wp P a w (fun a' w' => ∃ v, a' = a.put o.dst v ∧ (∀ d, o.dst = some d → spV S k v w') ∧ Below w.heap.size w w') Q := by
  unfold Oper.wp; rw [h]
  refine ⟨_, rfl, fun _ _ => ?_, Below.alloc (Below.refl _ _) (Nat.le_refl _) _⟩
  unfold spV; rw [hS]
  exact ⟨_, rfl, Blk.alloc_new _ _ _ rfl⟩
end
end Go.Proofs.Ytljpiofpfankoaa
