/-
  As GuarS, where what is read may be a map, too. Drawn regions by assume and guarantee, with stores of whole blocks and loads of whole blocks among the operations, in whatever order. Conditions: no guards; each block is stored into by one operation at most.
-/
import Derived.Test.YtljpiofpfankoaaGuarS
namespace Go.Proofs.Ytljpiofpfankoaa
open Go.RowKit Go.Sort
set_option linter.unusedVariables false
set_option linter.unusedSimpArgs false
namespace GO
section
variable {P : Program} {ops : Array Oper}
def slotV (o : Oper) (a : Act) : Value := match o.dst with
  | some d => a.tmps.getD d undef
  | none => undef
def slotOf (o : Oper) (v : Value) : Value := match o.dst with
  | some _ => v
  | none => undef
structure SInv (ops : Array Oper) (V : Nat → Value → World → Prop) (G : World → World → Prop) (a0 : Act) (w0 : World) (L : Array Bool) (a : Act) (w : World) : Prop where
  size : L.size = ops.size
  listed : Listed .any ops L
  told : ∀ (i : Nat) (o : Oper), ops[i]? = some o → L.getD i false = true → V i (slotV o a) w
  else_ : ∀ (t : Tmp), (∀ (i : Nat) (o : Oper), ops[i]? = some o → o.dst ≠ some t) → a.tmps.getD t undef = a0.tmps.getD t undef
  frame : a.tmps.size = a0.tmps.size ∧ a.defers = a0.defers
  rel : G w0 w
theorem SInv.next {V : Nat → Value → World → Prop} {G : World → World → Prop} {a0 : Act} {w0 : World} {L : Array Bool} {a : Act} {w w' : World} {i : Nat} {o : Oper} {v : Value} (I : SInv ops V G a0 w0 L a w) (S : GuarS ops a0.tmps.size) (ht : ∀ u v w, G u v → G v w → G u w) (hV : ∀ i v w w', V i v w → G w w' → V i v w') (hi : i ∈ Region.ready .any ops L) (ho : ops[i]? = some o) (hv : V i (slotOf o v) w') (hb : G w w') : SInv ops V G a0 w0 (L.setIfInBounds i true) (a.put o.dst v) w' := by
  refine ⟨by simp [I.size], I.listed.add hi, ?_, ?_, ?_, ht _ _ _ I.rel hb⟩
  · intro j q hq hj
    by_cases hji : j = i
    · subst hji
      rw [ho] at hq; cases hq
      have : slotV o (a.put o.dst v) = slotOf o v := by
        unfold slotV slotOf
        cases hod : o.dst with
        | none => rfl
        | some d =>
          have hds := S.slot j o d ho hod
          rw [← I.frame.1] at hds
          simp [Act.put, Array.getD_eq_getD_getElem?, hds]
      rw [this]; exact hv
    · rw [getD_set_ne false (Ne.symm hji)] at hj
      have h1 := hV j _ w w' (I.told j q hq hj) hb
      have : slotV q (a.put o.dst v) = slotV q a := by
        unfold slotV
        cases hqd : q.dst with
        | none => rfl
        | some d =>
          cases hod : o.dst with
          | none => rfl
          | some e =>
            have hne : e ≠ d := fun h => S.apart i o e j q ho hod hji hq (by rw [hqd, h])
            simp [Act.put, Array.getD_eq_getD_getElem?, Array.getElem?_setIfInBounds_ne hne]
      rw [this]; exact h1
  · intro t ht
    have h1 := I.else_ t ht
    rw [← h1]
    cases hod : o.dst with
    | none => rfl
    | some e =>
      have hne : e ≠ t := fun h => ht i o ho (by rw [hod, h])
      simp [Act.put, Array.getD_eq_getD_getElem?, Array.getElem?_setIfInBounds_ne hne]
  · cases hod : o.dst with
    | none => exact I.frame
    | some e => exact ⟨by simp [Act.put, I.frame.1], I.frame.2⟩
theorem wpAny_guarS {V : Nat → Value → World → Prop} {G : World → World → Prop} {a0 : Act} {w0 : World} {Q : Exit → Act → World → Prop} (S : GuarS ops a0.tmps.size) (ht : ∀ u v w, G u v → G v w → G u w)
    (hV : ∀ i v w w', V i v w → G w w' → V i v w')
    (hstep : ∀ (i : Nat) (o : Oper), ops[i]? = some o → ∀ L a w, SInv ops V G a0 w0 L a w → (∀ j ∈ waits .any ops i, L.getD j false = true) →
      o.wp P a w (fun a' w' => ∃ v, a' = a.put o.dst v ∧ V i (slotOf o v) w' ∧ G w w') Q)
    (hend : ∀ L a w, SInv ops V G a0 w0 L a w → (∀ i, i < ops.size → L.getD i false = true) → Q .normal a w) :
    ∀ (fuel : Nat) (L : Array Bool) (a : Act) (w : World), SInv ops V G a0 w0 L a w → unl L ops.size = fuel → wpAny P .any ops Q fuel L a w
  | 0, L, a, w, I, hu => by
    have hall := unl_zero _ hu
    refine ⟨?_, hend L a w I hall⟩
    cases hr : Region.ready .any ops L with
    | nil => rfl
    | cons i r =>
      exfalso
      have hi : i ∈ Region.ready .any ops L := by rw [hr]; exact List.mem_cons_self ..
      have h1 := (mem_ready.1 hi).1
      rw [getD_tf (hall i (ready_lt hi))] at h1; cases h1
  | fuel + 1, L, a, w, I, hu => by
    constructor
    · intro h0
      exfalso
      have : ∀ n i, i < n → i < ops.size → L.getD i false = true := by
        intro n
        induction n with
        | zero => intro i hi; omega
        | succ n ih =>
          intro i hi hs
          by_cases hb : L.getD i false = true
          · exact hb
          · exfalso
            have hf : L.getD i true = false := by
              have hlt : i < L.size := by rw [I.size]; exact hs
              simp only [Array.getD_eq_getD_getElem?] at *
              simpa [hlt] using hb
            have hr : i ∈ Region.ready .any ops L := by
              refine mem_ready.2 ⟨hf, ops[i], Array.getElem?_eq_getElem hs, fun e he hbd => ?_⟩
              have hw : e.on ∈ waits .any ops i := by
                unfold waits; rw [Array.getElem?_eq_getElem hs]
                exact List.mem_map.2 ⟨e, List.mem_filter.2 ⟨by simpa using he, hbd⟩, rfl⟩
              have hlt := S.ahead i _ (Array.getElem?_eq_getElem hs) _ hw
              exact ih e.on (by omega) (by omega)
            rw [h0] at hr; cases hr
      have hz : ∀ k, k ≤ ops.size → unl L k = 0 := by
        intro k
        induction k with
        | zero => intro _; rfl
        | succ k ih => intro hk; unfold unl; rw [ih (by omega), this (k + 1) k (by omega) (by omega)]; rfl
      rw [hz _ (Nat.le_refl _)] at hu; omega
    · intro i hi
      obtain ⟨hun, o, ho, hall⟩ := mem_ready.1 hi
      have his := ready_lt hi
      have hL : i < L.size := by rw [I.size]; exact his
      have hunf : L.getD i false = false := by
        simp only [Array.getD_eq_getD_getElem?] at *
        simpa [hL] using hun
      have hd : ∀ j ∈ waits .any ops i, L.getD j false = true := fun j hj => ready_waits hi hj
      unfold wpOp
      simp only [ho]
      rw [if_pos (by simp [Region.wanted, S.guard i o ho])]
      left
      refine Oper.wp_mono ?_ (hstep i o ho L a w I hd)
      rintro a' w' ⟨v, rfl, hv, hb⟩
      exact wpAny_guarS S ht hV hstep hend fuel _ _ _ (I.next S ht hV hi ho hv hb) (by have := unl_set hL hunf ops.size his; omega)
/-- A block that holds just these cells: its number, cells, type. -/
abbrev Fct := Nat × Array Value × TypeId
/-- A block that holds just this. -/
abbrev Oct := Nat × Obj
def Oct.at (f : Oct) (w : World) : Prop := w.heap[f.1]? = some f.2
def Fct.at (f : Fct) (w : World) : Prop := Blk w f.1 f.2.1 f.2.2
def Fct.room (f : Fct) (w : World) : Prop := ∃ cs, cs.size = f.2.1.size ∧ Blk w f.1 cs f.2.2
/-- A cell: its block, its place, its value. -/
abbrev Cct := Nat × Nat × Value
def Cct.at (c : Cct) (w : World) : Prop := w.cell? ⟨c.1, c.2.1, none⟩ = some c.2.2
/-- What no operation turns: blocks below lo; the blocks F; the blocks R and M are there, and R's, once they are full, stay so; the cells C, once they are set; the blocks from hi on. -/
structure GR (lo hi : Nat) (F : List Oct) (R M : List Fct) (C : List Cct) (w w' : World) : Prop where
  below : Below lo w w'
  fact : ∀ f ∈ F, f.at w → f.at w'
  room : ∀ r ∈ R ++ M, r.room w → r.room w'
  full : ∀ r ∈ R, r.at w → r.at w'
  cell : ∀ c ∈ C, c.at w → c.at w'
  fresh : ∀ (b : Nat) (c : Array Value) (s : TypeId), hi ≤ b → Blk w b c s → Blk w' b c s
theorem GR.refl {lo hi : Nat} {F : List Oct} {R M : List Fct} {C : List Cct} (w : World) : GR lo hi F R M C w w := ⟨Below.refl _ _, fun _ _ h => h, fun _ _ h => h, fun _ _ h => h, fun _ _ h => h, fun _ _ _ _ h => h⟩
theorem GR.trans {lo hi : Nat} {F : List Oct} {R M : List Fct} {C : List Cct} (u v w : World) (h : GR lo hi F R M C u v) (k : GR lo hi F R M C v w) : GR lo hi F R M C u w :=
  ⟨h.below.trans k.below, fun f m p => k.fact f m (h.fact f m p), fun f m p => k.room f m (h.room f m p), fun f m p => k.full f m (h.full f m p), fun f m p => k.cell f m (h.cell f m p), fun b c s l p => k.fresh b c s l (h.fresh b c s l p)⟩
theorem GR.of_below {lo hi : Nat} {F : List Oct} {R M : List Fct} {C : List Cct} {w w' : World} (h : Below w.heap.size w w') (hl : lo ≤ w.heap.size) : GR lo hi F R M C w w' :=
  ⟨h.mono hl, fun f _ p => (h.block f.1 (Array.getElem?_eq_some_iff.1 p).1).trans p, fun f _ ⟨cs, e, p⟩ => ⟨cs, e, Blk.below p h p.size⟩, fun f _ p => Blk.below p h p.size, fun c _ p => (h.cell (World.block_lt_of_cell? w _ p)).trans p, fun b c s _ p => Blk.below p h p.size⟩
/-- What is told of an operation: its value; that R's block is full; that these cells of C are set; a slice of a new block that holds just these cells; a pointer to one. -/
inductive Fp where
  | val (v : Value)
  | full (k : Nat)
  | sets (ks : List Nat)
  | cells (cs : Array Value) (t : TypeId)
  | ptr (cs : Array Value) (t : TypeId)
def fpV (hi : Nat) (R : List Fct) (C : List Cct) (S : List Fp) (i : Nat) (v : Value) (w : World) : Prop := match S[i]? with
  | some (.val x) => v = x
  | some (.full k) => ∀ r, R[k]? = some r → r.at w
  | some (.sets ks) => ∀ k ∈ ks, ∀ c, C[k]? = some c → c.at w
  | some (.cells cs t) => ∃ b, v = .slice (some ⟨b, 0, none⟩) cs.size cs.size ∧ hi ≤ b ∧ Blk w b cs t
  | some (.ptr cs t) => ∃ b, v = .pointer (some ⟨b, 0, none⟩) ∧ hi ≤ b ∧ Blk w b cs t
  | none => True
theorem fpV_rel {lo hi : Nat} {F : List Oct} {R M : List Fct} {C : List Cct} {S : List Fp} (i : Nat) (v : Value) (w w' : World) (h : fpV hi R C S i v w) (hb : GR lo hi F R M C w w') : fpV hi R C S i v w' := by
  unfold fpV at *
  cases hs : S[i]? with
  | none => trivial
  | some s =>
    rw [hs] at h
    cases s with
    | val x => exact h
    | full k => exact fun r hr => hb.full r (List.mem_of_getElem? hr) (h r hr)
    | sets ks => exact fun k hk c hc => hb.cell c (List.mem_of_getElem? hc) (h k hk c hc)
    | cells cs t => obtain ⟨b, e, l, p⟩ := h; exact ⟨b, e, l, hb.fresh _ _ _ l p⟩
    | ptr cs t => obtain ⟨b, e, l, p⟩ := h; exact ⟨b, e, l, hb.fresh _ _ _ l p⟩
structure SCtx (ops : Array Oper) (lo hi : Nat) (F : List Oct) (R M : List Fct) (C : List Cct) (S : List Fp) (a0 : Act) (w0 : World) (k : Nat) (a : Act) (w : World) : Prop where
  dep : ∀ (j : Nat) (q : Oper), (waits .any ops k).contains j = true → ops[j]? = some q → fpV hi R C S j (slotV q a) w
  off : ∀ t : Tmp, offB ops t = true → a.eval (.tmp t) = a0.eval (.tmp t)
  fact : ∀ f ∈ F, f.at w
  room : ∀ r ∈ R ++ M, r.room w
  cell : ∀ c ∈ C, c.at w0 → c.at w
  below : Below lo w0 w
  low : lo ≤ w.heap.size
  high : hi ≤ w.heap.size
def StepsS (P : Program) (ops : Array Oper) (lo hi : Nat) (F : List Oct) (R M : List Fct) (C : List Cct) (S : List Fp) (a0 : Act) (w0 : World) (Q : Exit → Act → World → Prop) : List Oper → Nat → Prop
  | [], _ => True
  | o :: r, k => (∀ a w, SCtx ops lo hi F R M C S a0 w0 k a w → o.wp P a w (fun a' w' => ∃ v, a' = a.put o.dst v ∧ fpV hi R C S k (slotOf o v) w' ∧ GR lo hi F R M C w w') Q) ∧ StepsS P ops lo hi F R M C S a0 w0 Q r (k + 1)
theorem stepsS_at {lo hi : Nat} {F : List Oct} {R M : List Fct} {C : List Cct} {S : List Fp} {a0 : Act} {w0 : World} {Q : Exit → Act → World → Prop} : ∀ (l : List Oper) (k : Nat), StepsS P ops lo hi F R M C S a0 w0 Q l k → ∀ i o, l[i]? = some o → ∀ a w, SCtx ops lo hi F R M C S a0 w0 (k + i) a w → o.wp P a w (fun a' w' => ∃ v, a' = a.put o.dst v ∧ fpV hi R C S (k + i) (slotOf o v) w' ∧ GR lo hi F R M C w w') Q
  | [], _, _, i, o, h, _, _, _ => by simp at h
  | q :: r, k, hs, 0, o, h, a, w, c => by simp at h; subst h; exact hs.1 a w c
  | q :: r, k, hs, i + 1, o, h, a, w, c => by
    have e : k + (i + 1) = (k + 1) + i := by omega
    rw [e] at c ⊢
    exact stepsS_at r (k + 1) hs.2 i o (by simpa using h) a w c
/-- The law. -/
theorem wp_region_guarS {id : Nat} {Q : Exit → Act → World → Prop} {a0 : Act} {w0 : World} {l : List Oper} (lo hi : Nat) (F : List Oct) (R M : List Fct) (C : List Cct) (S : List Fp) (hm : P.follows .mixedOrders = true) (hB : guarB l.toArray a0.tmps.size = true) (hlo : lo ≤ w0.heap.size) (hhi : hi ≤ w0.heap.size) (hF : ∀ f ∈ F, f.at w0) (hR : ∀ r ∈ R ++ M, r.room w0)
    (hs : StepsS P l.toArray lo hi F R M C S a0 { w0 with drawn := w0.drawn + 1 } Q l 0)
    (hend : ∀ a w, Below lo w0 w → (∀ f ∈ F, f.at w) → (∀ r ∈ R ++ M, r.room w) → (∀ c ∈ C, c.at w0 → c.at w) → (∀ (j : Nat) (q : Oper), l.toArray[j]? = some q → fpV hi R C S j (slotV q a) w) → (∀ t : Tmp, offB l.toArray t = true → a.eval (.tmp t) = a0.eval (.tmp t)) → a.tmps.size = a0.tmps.size → a.defers = a0.defers → Q .normal a w) : (Code.region id l.toArray true).wp P Q a0 w0 := by
  refine wp_region_any hm ?_
  have hdr : Below lo w0 { w0 with drawn := w0.drawn + 1 } := Below.drew (Below.refl _ _)
  have hF' : ∀ f ∈ F, f.at { w0 with drawn := w0.drawn + 1 } := fun f m => hF f m
  have hR' : ∀ r ∈ R ++ M, r.room { w0 with drawn := w0.drawn + 1 } := fun r m => by obtain ⟨cs, e, p⟩ := hR r m; exact ⟨cs, e, Blk.drew p⟩
  refine wpAny_guarS (V := fpV hi R C S) (G := GR lo hi F R M C) (a0 := a0) (w0 := { w0 with drawn := w0.drawn + 1 }) (guar_spec hB) GR.trans (fun i v w w' => fpV_rel i v w w') ?_ ?_ _ _ _ _ ?_ (unl_rep _ _)
  · intro i o ho L a w I hd
    have := stepsS_at l 0 hs i o (by simpa using ho) a w (by
      rw [Nat.zero_add]
      refine ⟨fun j q hj hq => ?_, fun t ht => ?_, fun f m => I.rel.fact f m (hF' f m), fun r m => I.rel.room r m (hR' r m), fun c m p => I.rel.cell c m p, I.rel.below, ?_, ?_⟩
      · exact I.told j q hq (hd j (by simpa using hj))
      · exact I.else_ t (fun i o ho => off_spec ht i o ho)
      · exact Nat.le_trans hlo I.rel.below.size
      · exact Nat.le_trans hhi I.rel.below.size)
    simpa using this
  · intro L a w I hall
    refine hend a w (hdr.trans I.rel.below) (fun f m => I.rel.fact f m (hF' f m)) (fun r m => I.rel.room r m (hR' r m)) (fun c m p => I.rel.cell c m p) (fun j q hq => I.told j q hq (hall j (Array.getElem?_eq_some_iff.1 hq).1)) (fun t ht => I.else_ t (fun i o ho => off_spec ht i o ho)) I.frame.1 I.frame.2
  · refine ⟨by simp, (fun j i hj _ => by rw [getD_rep] at hj; cases hj), (fun i o _ h => by rw [getD_rep] at h; cases h), fun t _ => rfl, ⟨rfl, rfl⟩, GR.refl _⟩
/-- An operation that reads. -/
theorem gvalS {lo hi : Nat} {F : List Oct} {R M : List Fct} {C : List Cct} {S : List Fp} {k : Nat} {o : Oper} {a : Act} {w : World} {Q : Exit → Act → World → Prop} (v : Value) (h : (execOp a.eval o).run P w = .ok (.value v) w) (hv : fpV hi R C S k (slotOf o v) w) : o.wp P a w (fun a' w' => ∃ v, a' = a.put o.dst v ∧ fpV hi R C S k (slotOf o v) w' ∧ GR lo hi F R M C w w') Q := by
  unfold Oper.wp; rw [h]; exact ⟨v, rfl, hv, GR.refl _⟩
/-- A call. -/
theorem gcallS {lo hi : Nat} {F : List Oct} {R M : List Fct} {C : List Cct} {S : List Fp} {k : Nat} {o : Oper} {a : Act} {w : World} {Q : Exit → Act → World → Prop} (v : Value) (f : FuncId) (args : Array Value) (hl : lo ≤ w.heap.size) (h : (execOp a.eval o).run P w = .ok (.enter f args) w) (hc : Calls P f args w fun e w' => e = .returned v ∧ Below w.heap.size w w') (hv : ∀ w', fpV hi R C S k (slotOf o v) w') : o.wp P a w (fun a' w' => ∃ v, a' = a.put o.dst v ∧ fpV hi R C S k (slotOf o v) w' ∧ GR lo hi F R M C w w') Q := by
  unfold Oper.wp; rw [h]
  refine hc.mono ?_
  rintro e w' ⟨rfl, hb⟩
  exact ⟨v, rfl, hv w', GR.of_below hb hl⟩
/-- A load of a whole block. -/
theorem gloadS {lo hi : Nat} {F : List Oct} {R M : List Fct} {C : List Cct} {S : List Fp} {k : Nat} {o : Oper} {a : Act} {w : World} {Q : Exit → Act → World → Prop} (ty : TypeId) (x : Operand) (B : Nat) (cs : Array Value) (t : TypeId) (d : TypeDesc) (ho : o.op = .load ty x) (hx : a.eval x = .pointer (some ⟨B, 0, none⟩)) (hB : Blk w B cs t) (hu : P.underlying ty = some d) (hd : d.isRow = true) (hi0 : (P.info? ty).map (·.size) = some cs.size) (hv : fpV hi R C S k (slotOf o (.agg cs)) w) : o.wp P a w (fun a' w' => ∃ v, a' = a.put o.dst v ∧ fpV hi R C S k (slotOf o v) w' ∧ GR lo hi F R M C w w') Q := by
  refine wp_load_mid ty x ho B 0 hx cs.toList d (fun j v hj => ?_) hu hd (by simpa using hi0) ?_
  · rw [hB.cell, Nat.zero_add]; simpa using hj
  · exact ⟨_, rfl, by simpa using hv, GR.refl _⟩
/-- A slice that is built. -/
theorem gsliceS {lo hi : Nat} {F : List Oct} {R M : List Fct} {C : List Cct} {S : List Fp} {k : Nat} {o : Oper} {a : Act} {w : World} {Q : Exit → Act → World → Prop} (cs : Array Value) (t : TypeId) (hS : S[k]? = some (.cells cs t)) (hd : o.dst.isSome = true) (hl : lo ≤ w.heap.size) (hh : hi ≤ w.heap.size) (h : (execOp a.eval o).run P w = .ok (.value (.slice (some ⟨w.heap.size, 0, none⟩) cs.size cs.size)) (w.alloc (.cells cs t))) : o.wp P a w (fun a' w' => ∃ v, a' = a.put o.dst v ∧ fpV hi R C S k (slotOf o v) w' ∧ GR lo hi F R M C w w') Q := by
  unfold Oper.wp; rw [h]
  refine ⟨_, rfl, ?_, GR.of_below (Below.alloc (Below.refl _ _) (Nat.le_refl _) _) hl⟩
  unfold fpV slotOf; rw [hS]
  cases hod : o.dst with
  | none => rw [hod] at hd; cases hd
  | some d => exact ⟨_, rfl, hh, Blk.alloc_new _ _ _ rfl⟩
/-- A block that is laid. -/
theorem gptrS {lo hi : Nat} {F : List Oct} {R M : List Fct} {C : List Cct} {S : List Fp} {k : Nat} {o : Oper} {a : Act} {w : World} {Q : Exit → Act → World → Prop} (cs : Array Value) (t : TypeId) (hS : S[k]? = some (.ptr cs t)) (hd : o.dst.isSome = true) (hl : lo ≤ w.heap.size) (hh : hi ≤ w.heap.size) (h : (execOp a.eval o).run P w = .ok (.value (.pointer (some ⟨w.heap.size, 0, none⟩))) (w.alloc (.cells cs t))) : o.wp P a w (fun a' w' => ∃ v, a' = a.put o.dst v ∧ fpV hi R C S k (slotOf o v) w' ∧ GR lo hi F R M C w w') Q := by
  unfold Oper.wp; rw [h]
  refine ⟨_, rfl, ?_, GR.of_below (Below.alloc (Below.refl _ _) (Nat.le_refl _) _) hl⟩
  unfold fpV slotOf; rw [hS]
  cases hod : o.dst with
  | none => rw [hod] at hd; cases hd
  | some d => exact ⟨_, rfl, hh, Blk.alloc_new _ _ _ rfl⟩
theorem heap_setCells_other {B b : Nat} (hb : b ≠ B) : ∀ (vs : List Value) (o : Nat) (w : World), (w.setCells B o vs).heap[b]? = w.heap[b]?
  | [], _, _ => rfl
  | v :: r, o, w => by
    show ((w.setCell ⟨B, o, none⟩ v).setCells B (o + 1) r).heap[b]? = _
    rw [heap_setCells_other hb r (o + 1) _, Below.heap_setCell _ _ _ _ hb]
theorem cell_block {w : World} {b o : Nat} {v : Value} (h : w.cell? ⟨b, o, none⟩ = some v) : b < w.heap.size := World.block_lt_of_cell? w _ h
theorem run_storeVar_gen (w : World) (b o : Nat) (ty : TypeId) (v : Value) (vs : Array Value) (hc : v.cells = vs) (ht : w.there b o vs.size) (hi : (P.info? ty).map (·.size) = some vs.size) (h1 : vs.all (·.oneCell') = true) :
    (storeVar ty ⟨b, o, none⟩ v).run P w = .ok () (w.setCells b o vs.toList) := by
  have := run_storeCells_cells (P := P) b o vs.toList 0 w (fun j hj => by simpa using (ht j (by simpa using hj)).1) (fun j hj => by simpa using (ht j (by simpa using hj)).2)
    (fun v hv => (Array.all_eq_true_iff_forall_mem.1 h1) v (by simpa using hv))
  cases hq : P.info? ty with
  | none => simp [hq] at hi
  | some i =>
    have hs : vs.size = i.size := by simp [hq] at hi; omega
    simp only [Nat.add_zero] at this
    simp [storeVar, sizeOf, typeInfo, hq, hc, hs, this]
theorem cell_setCells_out (b : Nat) (vs : List Value) (o : Nat) (w : World) (b' o' : Nat) (h : b' ≠ b ∨ o' < o ∨ o + vs.length ≤ o') : (w.setCells b o vs).cell? ⟨b', o', none⟩ = w.cell? ⟨b', o', none⟩ :=
  World.cell?_setCells_out b vs o w ⟨b', o', none⟩ (fun hb _ => by
    rcases h with h | h | h
    · exact absurd hb h
    · left; exact h
    · right; exact h)
theorem setCells_room {w : World} {b : Nat} {cs : Array Value} {t : TypeId} (h : Blk w b cs t) : ∀ (vs : List Value) (o : Nat), ∃ cs', cs'.size = cs.size ∧ Blk (w.setCells b o vs) b cs' t := fun vs o =>
  ⟨setFrom cs o vs, by
    have : ∀ (vs : List Value) (o : Nat) (cs : Array Value), (setFrom cs o vs).size = cs.size := by
      intro vs
      induction vs with
      | nil => intro o cs; rfl
      | cons v r ih => intro o cs; unfold setFrom; rw [ih]; simp
    exact this vs o cs, Blk.setCells vs o w cs h⟩
/-- A store of a whole block. -/
theorem gstoreS {lo hi : Nat} {F : List Oct} {R M : List Fct} {C : List Cct} {S : List Fp} {k : Nat} {o : Oper} {a : Act} {w : World} {Q : Exit → Act → World → Prop} (kk : Nat) (r : Fct) (ty : TypeId) (x y : Operand) (ho : o.op = .store ty x y) (hx : a.eval x = .pointer (some ⟨r.1, 0, none⟩)) (hy : a.eval y = .agg r.2.1) (hrm : r.room w) (hi0 : (P.info? ty).map (·.size) = some r.2.1.size) (h1 : r.2.1.all (·.oneCell') = true) (hS : S[k]? = some (.full kk)) (hr : R[kk]? = some r) (hlo : lo ≤ r.1) (hhi : r.1 < hi) (hF : ∀ f ∈ F, f.1 ≠ r.1) (hR : ∀ q ∈ R, q.1 = r.1 → q = r) (hC : ∀ c ∈ C, c.1 ≠ r.1) : o.wp P a w (fun a' w' => ∃ v, a' = a.put o.dst v ∧ fpV hi R C S k (slotOf o v) w' ∧ GR lo hi F R M C w w') Q := by
  obtain ⟨cs, hsz, hB⟩ := hrm
  refine wp_store_mid ty x y ho r.1 0 r.2.1 hx hy (fun j hj => ?_) hi0 h1 ?_
  · refine ⟨?_, hB.frozen _⟩
    rw [hB.cell, Nat.zero_add, Array.getElem?_eq_getElem (by omega)]; rfl
  · have hb := Blk.setCells r.2.1.toList 0 w cs hB
    rw [setFrom_all cs r.2.1 hsz.symm] at hb
    have kO : ∀ (b : Nat) (c : Array Value) (s : TypeId), b ≠ r.1 → Blk w b c s → Blk (w.setCells r.1 0 r.2.1.toList) b c s := fun b c s hne hbb => Blk.setCells_other hne _ _ _ hbb
    refine ⟨_, rfl, ?_, ?_⟩
    · unfold fpV; rw [hS]; intro q hq; rw [hr] at hq; cases hq; exact hb
    · refine ⟨Below.setCells hlo _ _ _ (Below.refl _ _), fun f m p => (heap_setCells_other (hF f m) _ _ _).trans p, fun q m p => ?_, fun q m p => ?_, fun c m p => ?_, fun b c s l p => kO _ _ _ (by omega) p⟩
      · obtain ⟨c, ec, pc⟩ := p
        by_cases e : q.1 = r.1
        · have he : Blk w q.1 c q.2.2 := pc
          rw [e] at he
          obtain ⟨c', e', p'⟩ := setCells_room he r.2.1.toList 0
          exact ⟨c', e'.trans ec, by rw [e]; exact p'⟩
        · exact ⟨c, ec, kO _ _ _ e pc⟩
      · by_cases e : q.1 = r.1
        · have := hR q m e; subst this; exact hb
        · exact kO _ _ _ e p
      · show World.cell? _ _ = _
        rw [cell_setCells_out _ _ _ _ _ _ (.inl (hC c m))]; exact p
/-- A store of a part of a block: the cells are set. -/
theorem gpartS {lo hi : Nat} {F : List Oct} {R M : List Fct} {C : List Cct} {S : List Fp} {k : Nat} {o : Oper} {a : Act} {w : World} {Q : Exit → Act → World → Prop} (ks : List Nat) (r : Fct) (B i0 : Nat) (v : Value) (vs : Array Value) (ty : TypeId) (x y : Operand) (ho : o.op = .store ty x y) (hx : a.eval x = .pointer (some ⟨B, i0, none⟩)) (hy : a.eval y = v) (hc : v.cells = vs) (hrm : r.room w) (hrB : r.1 = B) (hin : i0 + vs.size ≤ r.2.1.size) (hi0 : (P.info? ty).map (·.size) = some vs.size) (h1 : vs.all (·.oneCell') = true) (hS : S[k]? = some (.sets ks)) (hks : ∀ q ∈ ks, ∀ c, C[q]? = some c → c.1 = B ∧ i0 ≤ c.2.1 ∧ c.2.1 < i0 + vs.size) (hlo : lo ≤ B) (hhi : B < hi) (hF : ∀ f ∈ F, f.1 ≠ B) (hR : ∀ q ∈ R, q.1 ≠ B) (hC : ∀ c ∈ C, c.1 = B → i0 ≤ c.2.1 → c.2.1 < i0 + vs.size → vs[c.2.1 - i0]? = some c.2.2) : o.wp P a w (fun a' w' => ∃ v, a' = a.put o.dst v ∧ fpV hi R C S k (slotOf o v) w' ∧ GR lo hi F R M C w w') Q := by
  obtain ⟨cs, hsz, hB⟩ := hrm
  rw [hrB] at hB
  have ht : w.there B i0 vs.size := fun j hj => by
    refine ⟨?_, hB.frozen _⟩
    rw [hB.cell, Array.getElem?_eq_getElem (by omega)]; rfl
  have hset : ∀ c ∈ C, c.1 = B → i0 ≤ c.2.1 → c.2.1 < i0 + vs.size → c.at (w.setCells B i0 vs.toList) := fun c m e l1 l2 => by
    have h := hC c m e l1 l2
    have := World.cell?_setCells_in B vs.toList i0 w (fun i hi => (ht i (by simpa using hi)).1) (c.2.1 - i0) (by simp; omega)
    show World.cell? _ ⟨c.1, c.2.1, none⟩ = _
    rw [e, show c.2.1 = i0 + (c.2.1 - i0) by omega, this]
    rw [Array.getElem?_eq_some_iff] at h
    obtain ⟨hl, hv⟩ := h
    simpa using hv
  have kO : ∀ (b : Nat) (c : Array Value) (s : TypeId), b ≠ B → Blk w b c s → Blk (w.setCells B i0 vs.toList) b c s := fun b c s hne hbb => Blk.setCells_other hne _ _ _ hbb
  unfold Oper.wp execOp
  simp only [ho, hx, hy, Instr.storeAt, Instr.sureAddr, Sem.run_bind, Sem.run_pure, Result.andThen_ok, run_storeVar_gen w B i0 ty v vs hc ht hi0 h1]
  refine ⟨_, rfl, ?_, ?_⟩
  · unfold fpV; rw [hS]
    intro q hq c hcq
    obtain ⟨e, l1, l2⟩ := hks q hq c hcq
    exact hset c (List.mem_of_getElem? hcq) e l1 l2
  · refine ⟨Below.setCells hlo _ _ _ (Below.refl _ _), fun f m p => (heap_setCells_other (hF f m) _ _ _).trans p, fun q m p => ?_, fun q m p => kO _ _ _ (hR q m) p, fun c m p => ?_, fun b c s l p => kO _ _ _ (by omega) p⟩
    · obtain ⟨c, ec, pc⟩ := p
      by_cases e : q.1 = B
      · have he : Blk w q.1 c q.2.2 := pc
        rw [e] at he
        obtain ⟨c', e', p'⟩ := setCells_room he vs.toList i0
        exact ⟨c', e'.trans ec, by rw [e]; exact p'⟩
      · exact ⟨c, ec, kO _ _ _ e pc⟩
    · by_cases e : c.1 = B ∧ i0 ≤ c.2.1 ∧ c.2.1 < i0 + vs.size
      · exact hset c m e.1 e.2.1 e.2.2
      · show World.cell? _ _ = _
        rw [cell_setCells_out _ _ _ _ _ _ (by simp only [Array.length_toList]; omega)]; exact p
/-- A block out of its cells. -/
theorem Fct.of_cells {f : Fct} {w : World} (h : f.room w) (hc : ∀ j, j < f.2.1.size → w.cell? ⟨f.1, j, none⟩ = f.2.1[j]?) : f.at w := by
  obtain ⟨cs, e, hB⟩ := h
  have : cs = f.2.1 := by
    apply Array.ext
    · exact e
    · intro i h1 h2
      have := hc i h2
      rw [hB.cell, Array.getElem?_eq_getElem h1, Array.getElem?_eq_getElem h2] at this
      exact Option.some.inj this
  subst this; exact hB
end
end GO
end Go.Proofs.Ytljpiofpfankoaa
