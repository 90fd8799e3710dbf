/-
  Drawn regions by assume and guarantee, whose last operations wait for all others: behind the first ones stands the plain list of the last ones. Conditions: no guards, and what an operation waits for stands ahead of it.
-/
import Derived.Test.YtljpiofpfankoaaGuar
namespace Go.Proofs.Ytljpiofpfankoaa
open Go.RowKit Go.Sort
set_option linter.unusedVariables false
set_option linter.unusedSimpArgs false
section
variable {P : Program} {ops : Array Oper}
theorem lexEnd_size : ∀ (f k : Nat) (L : Array Bool), (lexEnd f k L).size = L.size
  | 0, _, _ => rfl
  | f + 1, k, L => by rw [lexEnd, lexEnd_size f]; simp
theorem lexEnd_off : ∀ (f k : Nat) (L : Array Bool) (j : Nat), k + f ≤ j → (lexEnd f k L).getD j false = L.getD j false
  | 0, _, _, _, _ => rfl
  | f + 1, k, L, j, h => by rw [lexEnd, lexEnd_off f (k + 1) _ j (by omega), getD_set_ne false (by omega)]
theorem getD_bool {L : Array Bool} {i : Nat} (h : i < L.size) : L.getD i false = L[i] := by simp [Array.getD_eq_getD_getElem?, h]
theorem eq_lexEnd {n m : Nat} {L : Array Bool} (hs : L.size = m) (h1 : ∀ i, i < n → L.getD i false = true) (h2 : ∀ i, n ≤ i → L.getD i false = false) : L = lexEnd n 0 (Array.replicate m false) := by
  apply Array.ext
  · rw [lexEnd_size]; simp [hs]
  · intro i hi hi'
    rw [← getD_bool hi, ← getD_bool hi']
    by_cases hin : i < n
    · rw [h1 i hin]
      have := lexEnd_all n 0 (Array.replicate m false) (fun j hj => by omega) i (by omega)
      have hl : i < (lexEnd n 0 (Array.replicate m false)).size := hi'
      simp only [Array.getD_eq_getD_getElem?] at *
      simpa [hl] using this.symm
    · rw [h2 i (by omega), lexEnd_off n 0 _ i (by omega), getD_rep]
theorem GInv.next {V : Nat → Value → World → Prop} {a0 : Act} {w0 : World} {L : Array Bool} {a : Act} {w w' : World} {i : Nat} {o : Oper} {v : Value} (I : GInv ops V a0 w0 L a w) (S : GuarS ops a0.tmps.size) (hV : ∀ i v w w', V i v w → Below w.heap.size w w' → V i v w') (hi : i ∈ Region.ready .any ops L) (ho : ops[i]? = some o) (hv : ∀ d, o.dst = some d → V i v w') (hb : Below w.heap.size w w') : GInv ops V a0 w0 (L.setIfInBounds i true) (a.put o.dst v) w' := by
  refine ⟨by simp [I.size], I.listed.add hi, ?_, ?_, ?_, I.below.trans (hb.mono I.below.size)⟩
  · intro j q d hq hj hqd
    by_cases hji : j = i
    · subst hji
      rw [ho] at hq; cases hq
      have hds := S.slot j o d ho hqd
      rw [← I.frame.1] at hds
      have : (a.put o.dst v).tmps.getD d undef = v := by
        rw [hqd]; simp [Act.put, Array.getD_eq_getD_getElem?, hds]
      rw [this]; exact hv d hqd
    · rw [getD_set_ne false (Ne.symm hji)] at hj
      have h1 := hV j _ w w' (I.told j q d hq hj hqd) hb
      have : (a.put o.dst v).tmps.getD d undef = a.tmps.getD d undef := by
        cases hod : o.dst with
        | none => rfl
        | some e =>
          have hne : e ≠ d := fun h => S.apart i o e j q ho hod hji hq (by rw [hqd, h])
          simp [Act.put, Array.getD_eq_getD_getElem?, Array.getElem?_setIfInBounds_ne hne]
      rw [this]; exact h1
  · intro t ht
    have h1 := I.else_ t ht
    rw [← h1]
    cases hod : o.dst with
    | none => rfl
    | some e =>
      have hne : e ≠ t := fun h => ht i o ho (by rw [hod, h])
      simp [Act.put, Array.getD_eq_getD_getElem?, Array.getElem?_setIfInBounds_ne hne]
  · cases hod : o.dst with
    | none => exact I.frame
    | some e => exact ⟨by simp [Act.put, I.frame.1], I.frame.2⟩
theorem wpAny_guarT {n : Nat} (hn : n < ops.size) (hc : coverB .any ops n = true) (htl : tailB .any ops (ops.size - n) n (lexEnd n 0 (Array.replicate ops.size false)) = true)
    {V : Nat → Value → World → Prop} {a0 : Act} {w0 : World} {Q : Exit → Act → World → Prop} (S : GuarS ops a0.tmps.size)
    (hV : ∀ i v w w', V i v w → Below w.heap.size w w' → V i v w')
    (hstep : ∀ (i : Nat) (o : Oper), i < n → ops[i]? = some o → ∀ L a w, GInv ops V a0 w0 L a w → (∀ j ∈ waits .any ops i, L.getD j false = true) →
      o.wp P a w (fun a' w' => ∃ v, a' = a.put o.dst v ∧ (∀ d, o.dst = some d → V i v w') ∧ Below w.heap.size w w') Q)
    (hend : ∀ L a w, GInv ops V a0 w0 L a w → (∀ i, i < n → L.getD i false = true) → wpList P ops Q (ops.toList.drop n) a w) :
    ∀ (fuel : Nat) (L : Array Bool) (a : Act) (w : World), GInv ops V a0 w0 L a w → (∀ i, n ≤ i → L.getD i false = false) → unl L n = fuel → wpAny P .any ops Q (fuel + (ops.size - n)) L a w
  | 0, L, a, w, I, hoff, hu => by
    have hall := unl_zero _ hu
    rw [Nat.zero_add]
    have hL := eq_lexEnd I.size hall hoff
    have hlen : (ops.toList.drop n).length = ops.size - n := by simp
    have := wpAny_tail (md := .any) (Q := Q) (P := P) (ops := ops) (ops.toList.drop n) n L a w (fun j hj => by simp [List.getElem?_drop]) (by rw [hlen, hL]; exact htl) (hend L a w I hall)
    rwa [hlen] at this
  | fuel + 1, L, a, w, I, hoff, hu => by
    rw [show fuel + 1 + (ops.size - n) = (fuel + (ops.size - n)) + 1 by omega]
    have least : ∀ m i, i < m → i < n → Region.ready .any ops L = [] → L.getD i false = true := by
      intro m
      induction m with
      | zero => intro i hi; omega
      | succ m ih =>
        intro i hi hin h0
        by_cases hb : L.getD i false = true
        · exact hb
        · exfalso
          have hs : i < ops.size := by omega
          have hf : L.getD i true = false := by
            have hlt : i < L.size := by rw [I.size]; exact hs
            simp only [Array.getD_eq_getD_getElem?] at *
            simpa [hlt] using hb
          have hr : i ∈ Region.ready .any ops L := by
            refine mem_ready.2 ⟨hf, ops[i], Array.getElem?_eq_getElem hs, fun e he hbd => ?_⟩
            have hw : e.on ∈ waits .any ops i := by
              unfold waits; rw [Array.getElem?_eq_getElem hs]
              exact List.mem_map.2 ⟨e, List.mem_filter.2 ⟨by simpa using he, hbd⟩, rfl⟩
            have hlt := S.ahead i _ (Array.getElem?_eq_getElem hs) _ hw
            exact ih e.on (by omega) (by omega) h0
          rw [h0] at hr; cases hr
    constructor
    · intro h0
      exfalso
      have hz : ∀ k, k ≤ n → unl L k = 0 := by
        intro k
        induction k with
        | zero => intro _; rfl
        | succ k ih => intro hk; unfold unl; rw [ih (by omega), least (k + 1) k (by omega) (by omega) h0]; rfl
      rw [hz _ (Nat.le_refl _)] at hu; omega
    · intro i hi
      obtain ⟨hun, o, ho, hall⟩ := mem_ready.1 hi
      have his := ready_lt hi
      have hin : i < n := by
        rcases Nat.lt_or_ge i n with h | h
        · exact h
        · exfalso
          have hl := ready_last hn hc I.listed hi h
          have hz : ∀ k, k ≤ n → unl L k = 0 := by
            intro k
            induction k with
            | zero => intro _; rfl
            | succ k ih => intro hk; unfold unl; rw [ih (by omega), hl k (by omega)]; rfl
          rw [hz _ (Nat.le_refl _)] at hu; omega
      have hL : i < L.size := by rw [I.size]; exact his
      have hunf : L.getD i false = false := by
        simp only [Array.getD_eq_getD_getElem?] at *
        simpa [hL] using hun
      have hd : ∀ j ∈ waits .any ops i, L.getD j false = true := fun j hj => ready_waits hi hj
      unfold wpOp
      simp only [ho]
      rw [if_pos (by simp [Region.wanted, S.guard i o ho])]
      left
      refine Oper.wp_mono ?_ (hstep i o hin ho L a w I hd)
      rintro a' w' ⟨v, rfl, hv, hb⟩
      refine wpAny_guarT hn hc htl S hV hstep hend fuel _ _ _ (I.next S hV hi ho hv hb) (fun j hj => by rw [getD_set_ne false (by omega)]; exact hoff j hj) (by have := unl_set hL hunf n hin; omega)
/-- What is told of an operation's value: this value; a slice of a block of its own that holds just these cells; a pointer to one. -/
inductive Tp where
  | val (v : Value)
  | cells (cs : Array Value) (t : TypeId)
  | ptr (cs : Array Value) (t : TypeId)
def Tp.V (lo : Nat) (w : World) (v : Value) : Tp → Prop
  | .val x => v = x
  | .cells cs t => ∃ b, v = .slice (some ⟨b, 0, none⟩) cs.size cs.size ∧ Blk w b cs t
  | .ptr cs t => ∃ b, v = .pointer (some ⟨b, 0, none⟩) ∧ lo ≤ b ∧ Blk w b cs t
def tpV (lo : Nat) (S : List Tp) (i : Nat) (v : Value) (w : World) : Prop := match S[i]? with
  | some s => s.V lo w v
  | none => True
theorem tpV_below {lo : Nat} {S : List Tp} (i : Nat) (v : Value) (w w' : World) (h : tpV lo S i v w) (hb : Below w.heap.size w w') : tpV lo S i v w' := by
  unfold tpV at *
  cases hs : S[i]? with
  | none => trivial
  | some s =>
    rw [hs] at h
    cases s with
    | val x => exact h
    | cells cs t => obtain ⟨b, e, hB⟩ := h; exact ⟨b, e, Blk.below hB hb hB.size⟩
    | ptr cs t => obtain ⟨b, e, hl, hB⟩ := h; exact ⟨b, e, hl, Blk.below hB hb hB.size⟩
structure TCtx (ops : Array Oper) (S : List Tp) (a0 : Act) (w0 : World) (k : Nat) (a : Act) (w : World) : Prop where
  dep : ∀ (j : Nat) (q : Oper) (t : Tmp), (waits .any ops k).contains j = true → ops[j]? = some q → q.dst = some t → tpV w0.heap.size S j (a.eval (.tmp t)) w
  off : ∀ t : Tmp, offB ops t = true → a.eval (.tmp t) = a0.eval (.tmp t)
  below : Below w0.heap.size w0 w
def StepsT (P : Program) (ops : Array Oper) (S : List Tp) (a0 : Act) (w0 : World) (Q : Exit → Act → World → Prop) : List Oper → Nat → Prop
  | [], _ => True
  | o :: r, k => (∀ a w, TCtx ops S a0 w0 k a w → o.wp P a w (fun a' w' => ∃ v, a' = a.put o.dst v ∧ (∀ d, o.dst = some d → tpV w0.heap.size S k v w') ∧ Below w.heap.size w w') Q) ∧ StepsT P ops S a0 w0 Q r (k + 1)
theorem stepsT_at {S : List Tp} {a0 : Act} {w0 : World} {Q : Exit → Act → World → Prop} : ∀ (l : List Oper) (k : Nat), StepsT P ops S a0 w0 Q l k → ∀ i o, l[i]? = some o → ∀ a w, TCtx ops S a0 w0 (k + i) a w → o.wp P a w (fun a' w' => ∃ v, a' = a.put o.dst v ∧ (∀ d, o.dst = some d → tpV w0.heap.size S (k + i) v w') ∧ Below w.heap.size w w') Q
  | [], _, _, i, o, h, _, _, _ => by simp at h
  | q :: r, k, hs, 0, o, h, a, w, c => by simp at h; subst h; exact hs.1 a w c
  | q :: r, k, hs, i + 1, o, h, a, w, c => by
    have e : k + (i + 1) = (k + 1) + i := by omega
    rw [e] at c ⊢
    exact stepsT_at r (k + 1) hs.2 i o (by simpa using h) a w c
/-- The law: the first n operations as they are told, the others behind them in the text's order. -/
theorem wp_region_guarT {id : Nat} {Q : Exit → Act → World → Prop} {a0 : Act} {w0 : World} {l : List Oper} (n : Nat) (S : List Tp) (hm : P.follows .mixedOrders = true) (hB : guarB l.toArray a0.tmps.size = true) (hn : n < l.toArray.size) (hc : coverB .any l.toArray n = true) (htl : tailB .any l.toArray (l.toArray.size - n) n (lexEnd n 0 (Array.replicate l.toArray.size false)) = true)
    (hs : StepsT P l.toArray S a0 { w0 with drawn := w0.drawn + 1 } Q (l.take n) 0)
    (hend : ∀ a w, Below w0.heap.size w0 w → (∀ (j : Nat) (q : Oper) (t : Tmp), j < n → l.toArray[j]? = some q → q.dst = some t → tpV w0.heap.size S j (a.eval (.tmp t)) w) → (∀ t : Tmp, offB l.toArray t = true → a.eval (.tmp t) = a0.eval (.tmp t)) → a.tmps.size = a0.tmps.size → a.defers = a0.defers → wpList P l.toArray Q (l.drop n) a w) : (Code.region id l.toArray true).wp P Q a0 w0 := by
  refine wp_region_any hm ?_
  have hdr : Below w0.heap.size w0 { w0 with drawn := w0.drawn + 1 } := Below.drew (Below.refl _ _)
  have := wpAny_guarT (P := P) (ops := l.toArray) (Q := Q) hn hc htl (V := tpV w0.heap.size S) (a0 := a0) (w0 := { w0 with drawn := w0.drawn + 1 }) (guar_spec hB) (fun i v w w' => tpV_below i v w w') ?_ ?_ n (Array.replicate l.toArray.size false) a0 { w0 with drawn := w0.drawn + 1 } ?_ (fun i _ => getD_rep _ _) (unl_rep _ _)
  · rw [show n + (l.toArray.size - n) = l.toArray.size by omega] at this
    exact this
  · intro i o hin ho L a w I hd
    have hg : (l.take n)[i]? = some o := by rw [List.getElem?_take, if_pos hin]; simpa using ho
    have := stepsT_at (l.take n) 0 hs i o hg a w (by
      rw [Nat.zero_add]
      refine ⟨fun j q t hj hq ht => ?_, fun t ht => ?_, I.below⟩
      · exact I.told j q t hq (hd j (by simpa using hj)) ht
      · exact I.else_ t (fun i o ho => off_spec ht i o ho))
    simpa using this
  · intro L a w I hall
    have := hend a w (hdr.trans I.below) (fun j q t hj hq ht => I.told j q t hq (hall j hj) ht) (fun t ht => I.else_ t (fun i o ho => off_spec ht i o ho)) I.frame.1 I.frame.2
    simpa using this
  · refine ⟨by simp, (fun j i hj _ => by rw [getD_rep] at hj; cases hj), (fun i o d _ h _ => by rw [getD_rep] at h; cases h), fun t _ => rfl, ⟨rfl, rfl⟩, Below.refl _ _⟩
/-- An operation that reads. -/
theorem gvalT {lo : Nat} {S : List Tp} {k : Nat} {o : Oper} {a : Act} {w : World} {Q : Exit → Act → World → Prop} (v : Value) (h : (execOp a.eval o).run P w = .ok (.value v) w) (hv : tpV lo S k v w) : o.wp P a w (fun a' w' => ∃ v, a' = a.put o.dst v ∧ (∀ d, o.dst = some d → tpV lo S k v w') ∧ Below w.heap.size w w') Q := by
  unfold Oper.wp; rw [h]; exact ⟨v, rfl, fun _ _ => hv, Below.refl _ _⟩
/-- A call. -/
theorem gcallT {lo : Nat} {S : List Tp} {k : Nat} {o : Oper} {a : Act} {w : World} {Q : Exit → Act → World → Prop} (v : Value) (f : FuncId) (args : Array Value) (h : (execOp a.eval o).run P w = .ok (.enter f args) w) (hc : Calls P f args w fun e w' => e = .returned v ∧ Below w.heap.size w w') (hv : ∀ w', tpV lo S k v w') : o.wp P a w (fun a' w' => ∃ v, a' = a.put o.dst v ∧ (∀ d, o.dst = some d → tpV lo S k v w') ∧ Below w.heap.size w w') Q := by
  unfold Oper.wp; rw [h]
  refine hc.mono ?_
  rintro e w' ⟨rfl, hb⟩
  exact ⟨v, rfl, fun _ _ => hv w', hb⟩
/-- A slice that is built. -/
theorem gsliceT {lo : Nat} {S : List Tp} {k : Nat} {o : Oper} {a : Act} {w : World} {Q : Exit → Act → World → Prop} (cs : Array Value) (t : TypeId) (hS : S[k]? = some (.cells cs t)) (h : (execOp a.eval o).run P w = .ok (.value (.slice (some ⟨w.heap.size, 0, none⟩) cs.size cs.size)) (w.alloc (.cells cs t))) : o.wp P a w (fun a' w' => ∃ v, a' = a.put o.dst v ∧ (∀ d, o.dst = some d → tpV lo S k v w') ∧ Below w.heap.size w w') Q := by
  unfold Oper.wp; rw [h]
  refine ⟨_, rfl, fun _ _ => ?_, Below.alloc (Below.refl _ _) (Nat.le_refl _) _⟩
  unfold tpV; rw [hS]
  exact ⟨_, rfl, Blk.alloc_new _ _ _ rfl⟩
/-- A block that is laid. -/
theorem gptrT {lo : Nat} {S : List Tp} {k : Nat} {o : Oper} {a : Act} {w : World} {Q : Exit → Act → World → Prop} (cs : Array Value) (t : TypeId) (hS : S[k]? = some (.ptr cs t)) (hlo : lo ≤ w.heap.size) (h : (execOp a.eval o).run P w = .ok (.value (.pointer (some ⟨w.heap.size, 0, none⟩))) (w.alloc (.cells cs t))) : o.wp P a w (fun a' w' => ∃ v, a' = a.put o.dst v ∧ (∀ d, o.dst = some d → tpV lo S k v w') ∧ Below w.heap.size w w') Q := by
  unfold Oper.wp; rw [h]
  refine ⟨_, rfl, fun _ _ => ?_, Below.alloc (Below.refl _ _) (Nat.le_refl _) _⟩
  unfold tpV; rw [hS]
  exact ⟨_, rfl, hlo, Blk.alloc_new _ _ _ rfl⟩
end
end Go.Proofs.Ytljpiofpfankoaa
