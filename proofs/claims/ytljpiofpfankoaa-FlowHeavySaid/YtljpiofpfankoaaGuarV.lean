/-
  Drawn regions by assume and guarantee, with a tail, and slices built of structs. Conditions: no guards; what an operation waits for stands ahead of it.
-/
import Derived.Test.YtljpiofpfankoaaGuarT
namespace Go.Proofs.Ytljpiofpfankoaa
open Go.RowKit Go.Sort
set_option linter.unusedVariables false
set_option linter.unusedSimpArgs false
section
variable {P : Program} {ops : Array Oper}
structure GInv2 (ops : Array Oper) (V : Nat → Value → World → Prop) (a0 : Act) (w0 : World) (L : Array Bool) (a : Act) (w : World) : Prop where
  base : GInv ops V a0 w0 L a w
  off2 : ∀ (t : Tmp), (∀ (i : Nat) (o : Oper), ops[i]? = some o → L.getD i false = true → o.dst ≠ some t) → a.tmps.getD t undef = a0.tmps.getD t undef
theorem GInv2.next {V : Nat → Value → World → Prop} {a0 : Act} {w0 : World} {L : Array Bool} {a : Act} {w w' : World} {i : Nat} {o : Oper} {v : Value} (I : GInv2 ops V a0 w0 L a w) (S : GuarS ops a0.tmps.size) (hV : ∀ i v w w', V i v w → Below w.heap.size w w' → V i v w') (hi : i ∈ Region.ready .any ops L) (ho : ops[i]? = some o) (hv : ∀ d, o.dst = some d → V i v w') (hb : Below w.heap.size w w') : GInv2 ops V a0 w0 (L.setIfInBounds i true) (a.put o.dst v) w' := by
  refine ⟨I.base.next S hV hi ho hv hb, fun t ht => ?_⟩
  have hL : i < L.size := by rw [I.base.size]; exact ready_lt hi
  have h1 := I.off2 t (fun j q hq hj => by
    by_cases e : i = j
    · subst e; exact ht i q hq (getD_set_self hL)
    · exact ht j q hq (by rw [getD_set_ne false e]; exact hj))
  rw [← h1]
  cases hod : o.dst with
  | none => rfl
  | some e =>
    have hne : e ≠ t := fun h => ht i o ho (getD_set_self hL) (by rw [hod, h])
    simp [Act.put, Array.getD_eq_getD_getElem?, Array.getElem?_setIfInBounds_ne hne]
theorem wpAny_guarT2 {n : Nat} (hn : n < ops.size) (hc : coverB .any ops n = true) (htl : tailB .any ops (ops.size - n) n (lexEnd n 0 (Array.replicate ops.size false)) = true)
    {V : Nat → Value → World → Prop} {a0 : Act} {w0 : World} {Q : Exit → Act → World → Prop} (S : GuarS ops a0.tmps.size)
    (hV : ∀ i v w w', V i v w → Below w.heap.size w w' → V i v w')
    (hstep : ∀ (i : Nat) (o : Oper), i < n → ops[i]? = some o → ∀ L a w, GInv2 ops V a0 w0 L a w → (∀ i, n ≤ i → L.getD i false = false) → (∀ j ∈ waits .any ops i, L.getD j false = true) →
      o.wp P a w (fun a' w' => ∃ v, a' = a.put o.dst v ∧ (∀ d, o.dst = some d → V i v w') ∧ Below w.heap.size w w') Q)
    (hend : ∀ L a w, GInv2 ops V a0 w0 L a w → (∀ i, n ≤ i → L.getD i false = false) → (∀ i, i < n → L.getD i false = true) → wpList P ops Q (ops.toList.drop n) a w) :
    ∀ (fuel : Nat) (L : Array Bool) (a : Act) (w : World), GInv2 ops V a0 w0 L a w → (∀ i, n ≤ i → L.getD i false = false) → unl L n = fuel → wpAny P .any ops Q (fuel + (ops.size - n)) L a w
  | 0, L, a, w, I, hoff, hu => by
    have hall := unl_zero _ hu
    rw [Nat.zero_add]
    have hL := eq_lexEnd I.base.size hall hoff
    have hlen : (ops.toList.drop n).length = ops.size - n := by simp
    have := wpAny_tail (md := .any) (Q := Q) (P := P) (ops := ops) (ops.toList.drop n) n L a w (fun j hj => by simp [List.getElem?_drop]) (by rw [hlen, hL]; exact htl) (hend L a w I hoff hall)
    rwa [hlen] at this
  | fuel + 1, L, a, w, I, hoff, hu => by
    rw [show fuel + 1 + (ops.size - n) = (fuel + (ops.size - n)) + 1 by omega]
    have least : ∀ m i, i < m → i < n → Region.ready .any ops L = [] → L.getD i false = true := by
      intro m
      induction m with
      | zero => intro i hi; omega
      | succ m ih =>
        intro i hi hin h0
        by_cases hb : L.getD i false = true
        · exact hb
        · exfalso
          have hs : i < ops.size := by omega
          have hf : L.getD i true = false := by
            have hlt : i < L.size := by rw [I.base.size]; exact hs
            simp only [Array.getD_eq_getD_getElem?] at *
            simpa [hlt] using hb
          have hr : i ∈ Region.ready .any ops L := by
            refine mem_ready.2 ⟨hf, ops[i], Array.getElem?_eq_getElem hs, fun e he hbd => ?_⟩
            have hw : e.on ∈ waits .any ops i := by
              unfold waits; rw [Array.getElem?_eq_getElem hs]
              exact List.mem_map.2 ⟨e, List.mem_filter.2 ⟨by simpa using he, hbd⟩, rfl⟩
            have hlt := S.ahead i _ (Array.getElem?_eq_getElem hs) _ hw
            exact ih e.on (by omega) (by omega) h0
          rw [h0] at hr; cases hr
    constructor
    · intro h0
      exfalso
      have hz : ∀ k, k ≤ n → unl L k = 0 := by
        intro k
        induction k with
        | zero => intro _; rfl
        | succ k ih => intro hk; unfold unl; rw [ih (by omega), least (k + 1) k (by omega) (by omega) h0]; rfl
      rw [hz _ (Nat.le_refl _)] at hu; omega
    · intro i hi
      obtain ⟨hun, o, ho, hall⟩ := mem_ready.1 hi
      have his := ready_lt hi
      have hin : i < n := by
        rcases Nat.lt_or_ge i n with h | h
        · exact h
        · exfalso
          have hl := ready_last hn hc I.base.listed hi h
          have hz : ∀ k, k ≤ n → unl L k = 0 := by
            intro k
            induction k with
            | zero => intro _; rfl
            | succ k ih => intro hk; unfold unl; rw [ih (by omega), hl k (by omega)]; rfl
          rw [hz _ (Nat.le_refl _)] at hu; omega
      have hL : i < L.size := by rw [I.base.size]; exact his
      have hunf : L.getD i false = false := by
        simp only [Array.getD_eq_getD_getElem?] at *
        simpa [hL] using hun
      have hd : ∀ j ∈ waits .any ops i, L.getD j false = true := fun j hj => ready_waits hi hj
      unfold wpOp
      simp only [ho]
      rw [if_pos (by simp [Region.wanted, S.guard i o ho])]
      left
      refine Oper.wp_mono ?_ (hstep i o hin ho L a w I hoff hd)
      rintro a' w' ⟨v, rfl, hv, hb⟩
      refine wpAny_guarT2 hn hc htl S hV hstep hend fuel _ _ _ (I.next S hV hi ho hv hb) (fun j hj => by rw [getD_set_ne false (by omega)]; exact hoff j hj) (by have := unl_set hL hunf n hin; omega)
/-- What is told of an operation's value: this value; a slice of n things, whose block holds just these cells. -/
inductive Vp where
  | val (v : Value)
  | row (n : Nat) (cs : Array Value) (t : TypeId)
def Vp.V (w : World) (v : Value) : Vp → Prop
  | .val x => v = x
  | .row n cs t => ∃ b, v = .slice (some ⟨b, 0, none⟩) n n ∧ Blk w b cs t
def vpV (S : List Vp) (i : Nat) (v : Value) (w : World) : Prop := match S[i]? with
  | some s => s.V w v
  | none => True
theorem vpV_below {S : List Vp} (i : Nat) (v : Value) (w w' : World) (h : vpV S i v w) (hb : Below w.heap.size w w') : vpV S i v w' := by
  unfold vpV at *
  cases hs : S[i]? with
  | none => trivial
  | some s =>
    rw [hs] at h
    cases s with
    | val x => exact h
    | row n cs t => obtain ⟨b, e, hB⟩ := h; exact ⟨b, e, Blk.below hB hb hB.size⟩
/-- None of the first n operations writes the slot. -/
def offN (n : Nat) (ops : Array Oper) (t : Tmp) : Bool := (ops.toList.take n).all fun (o : Oper) => decide (o.dst ≠ some t)
theorem offN_spec {n : Nat} {t : Tmp} (h : offN n ops t = true) (i : Nat) (o : Oper) (hi : i < n) (ho : ops[i]? = some o) : o.dst ≠ some t := by
  have h1 : (ops.toList.take n)[i]? = some o := by rw [List.getElem?_take_of_lt hi]; simpa using ho
  have := List.all_eq_true.1 h o (List.mem_of_getElem? h1)
  simpa using this
structure VCtx (n : Nat) (ops : Array Oper) (S : List Vp) (a0 : Act) (w0 : World) (k : Nat) (a : Act) (w : World) : Prop where
  dep : ∀ (j : Nat) (q : Oper) (t : Tmp), (waits .any ops k).contains j = true → ops[j]? = some q → q.dst = some t → vpV S j (a.eval (.tmp t)) w
  off : ∀ t : Tmp, offN n ops t = true → a.eval (.tmp t) = a0.eval (.tmp t)
  below : Below w0.heap.size w0 w
def StepsV (n : Nat) (P : Program) (ops : Array Oper) (S : List Vp) (a0 : Act) (w0 : World) (Q : Exit → Act → World → Prop) : List Oper → Nat → Prop
  | [], _ => True
  | o :: r, k => (∀ a w, VCtx n ops S a0 w0 k a w → o.wp P a w (fun a' w' => ∃ v, a' = a.put o.dst v ∧ (∀ d, o.dst = some d → vpV S k v w') ∧ Below w.heap.size w w') Q) ∧ StepsV n P ops S a0 w0 Q r (k + 1)
theorem stepsV_at {n : Nat} {S : List Vp} {a0 : Act} {w0 : World} {Q : Exit → Act → World → Prop} : ∀ (l : List Oper) (k : Nat), StepsV n P ops S a0 w0 Q l k → ∀ i o, l[i]? = some o → ∀ a w, VCtx n ops S a0 w0 (k + i) a w → o.wp P a w (fun a' w' => ∃ v, a' = a.put o.dst v ∧ (∀ d, o.dst = some d → vpV S (k + i) v w') ∧ Below w.heap.size w w') Q
  | [], _, _, i, o, h, _, _, _ => by simp at h
  | q :: r, k, hs, 0, o, h, a, w, c => by simp at h; subst h; exact hs.1 a w c
  | q :: r, k, hs, i + 1, o, h, a, w, c => by
    have e : k + (i + 1) = (k + 1) + i := by omega
    rw [e] at c ⊢
    exact stepsV_at r (k + 1) hs.2 i o (by simpa using h) a w c
theorem wp_region_guarV {id : Nat} {Q : Exit → Act → World → Prop} {a0 : Act} {w0 : World} {l : List Oper} (n : Nat) (S : List Vp) (hm : P.follows .mixedOrders = true) (hB : guarB l.toArray a0.tmps.size = true) (hn : n < l.toArray.size) (hc : coverB .any l.toArray n = true) (htl : tailB .any l.toArray (l.toArray.size - n) n (lexEnd n 0 (Array.replicate l.toArray.size false)) = true)
    (hs : StepsV n P l.toArray S a0 { w0 with drawn := w0.drawn + 1 } Q (l.take n) 0)
    (hend : ∀ a w, Below w0.heap.size w0 w → (∀ (j : Nat) (q : Oper) (t : Tmp), j < n → l.toArray[j]? = some q → q.dst = some t → vpV S j (a.eval (.tmp t)) w) → (∀ t : Tmp, offN n l.toArray t = true → a.eval (.tmp t) = a0.eval (.tmp t)) → a.tmps.size = a0.tmps.size → a.defers = a0.defers → wpList P l.toArray Q (l.drop n) a w) : (Code.region id l.toArray true).wp P Q a0 w0 := by
  refine wp_region_any hm ?_
  have hdr : Below w0.heap.size w0 { w0 with drawn := w0.drawn + 1 } := Below.drew (Below.refl _ _)
  have hoffL : ∀ (L : Array Bool), (∀ i, n ≤ i → L.getD i false = false) → ∀ t : Tmp, offN n l.toArray t = true → ∀ (i : Nat) (o : Oper), l.toArray[i]? = some o → L.getD i false = true → o.dst ≠ some t := fun L hL t ht i o ho hi => by
    rcases Nat.lt_or_ge i n with h | h
    · exact offN_spec ht i o h ho
    · rw [hL i h] at hi; cases hi
  have := wpAny_guarT2 (P := P) (ops := l.toArray) (Q := Q) hn hc htl (V := vpV S) (a0 := a0) (w0 := { w0 with drawn := w0.drawn + 1 }) (guar_spec hB) (fun i v w w' => vpV_below i v w w') ?_ ?_ n (Array.replicate l.toArray.size false) a0 { w0 with drawn := w0.drawn + 1 } ?_ (fun i _ => getD_rep _ _) (unl_rep _ _)
  · rw [show n + (l.toArray.size - n) = l.toArray.size by omega] at this
    exact this
  · intro i o hin ho L a w I hoff hd
    have hg : (l.take n)[i]? = some o := by rw [List.getElem?_take, if_pos hin]; simpa using ho
    have := stepsV_at (l.take n) 0 hs i o hg a w (by
      rw [Nat.zero_add]
      refine ⟨fun j q t hj hq ht => ?_, fun t ht => ?_, I.base.below⟩
      · exact I.base.told j q t hq (hd j (by simpa using hj)) ht
      · exact I.off2 t (hoffL L hoff t ht))
    simpa using this
  · intro L a w I hoff hall
    have := hend a w (hdr.trans I.base.below) (fun j q t hj hq ht => I.base.told j q t hq (hall j hj) ht) (fun t ht => I.off2 t (hoffL L hoff t ht)) I.base.frame.1 I.base.frame.2
    simpa using this
  · exact ⟨⟨by simp, (fun j i hj _ => by rw [getD_rep] at hj; cases hj), (fun i o d _ h _ => by rw [getD_rep] at h; cases h), fun t _ => rfl, ⟨rfl, rfl⟩, Below.refl _ _⟩, fun t _ => rfl⟩
theorem gvalV {S : List Vp} {k : Nat} {o : Oper} {a : Act} {w : World} {Q : Exit → Act → World → Prop} (v : Value) (h : (execOp a.eval o).run P w = .ok (.value v) w) (hv : vpV S k v w) : o.wp P a w (fun a' w' => ∃ v, a' = a.put o.dst v ∧ (∀ d, o.dst = some d → vpV S k v w') ∧ Below w.heap.size w w') Q := by
  unfold Oper.wp; rw [h]; exact ⟨v, rfl, fun _ _ => hv, Below.refl _ _⟩
theorem gcallV {S : List Vp} {k : Nat} {o : Oper} {a : Act} {w : World} {Q : Exit → Act → World → Prop} (v : Value) (f : FuncId) (args : Array Value) (h : (execOp a.eval o).run P w = .ok (.enter f args) w) (hc : Calls P f args w fun e w' => e = .returned v ∧ Below w.heap.size w w') (hv : ∀ w', vpV S k v w') : o.wp P a w (fun a' w' => ∃ v, a' = a.put o.dst v ∧ (∀ d, o.dst = some d → vpV S k v w') ∧ Below w.heap.size w w') Q := by
  unfold Oper.wp; rw [h]
  refine hc.mono ?_
  rintro e w' ⟨rfl, hb⟩
  exact ⟨v, rfl, fun _ _ => hv w', hb⟩
theorem gsliceV {S : List Vp} {k : Nat} {o : Oper} {a : Act} {w : World} {Q : Exit → Act → World → Prop} (n : Nat) (cs : Array Value) (t : TypeId) (hS : S[k]? = some (.row n cs t)) (h : (execOp a.eval o).run P w = .ok (.value (.slice (some ⟨w.heap.size, 0, none⟩) n n)) (w.alloc (.cells cs t))) : o.wp P a w (fun a' w' => ∃ v, a' = a.put o.dst v ∧ (∀ d, o.dst = some d → vpV S k v w') ∧ Below w.heap.size w w') Q := by
  unfold Oper.wp; rw [h]
  refine ⟨_, rfl, fun _ _ => ?_, Below.alloc (Below.refl _ _) (Nat.le_refl _) _⟩
  unfold vpV; rw [hS]
  exact ⟨_, rfl, Blk.alloc_new _ _ _ rfl⟩
end
end Go.Proofs.Ytljpiofpfankoaa
