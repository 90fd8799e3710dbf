/-
  Maps of flows: setting, whether a flow is there or not; ranging over them in whatever order. Conditions: the map's entries are known.
-/
import Derived.Test.YtljpiofpfankoaaFlE
import Derived.Laws.IdiomRangeMap
namespace Go.Proofs.Ytljpiofpfankoaa
open Go.RowKit Go.Sort
set_option linter.unusedVariables false
set_option linter.unusedSimpArgs false
/-- The map that lies in block M has these flows, in this order; its entries' stamps are as the model makes them. -/
def MapW (w : World) (M : Nat) (L : List FW) : Prop := ∃ (es : Array MapEntry) (clock : Nat), w.heap[M]? = some (.map es clock) ∧ sameL es.toList L ∧ (∀ e ∈ es.toList, e.born < clock) ∧ (es.toList.map (·.born)).Nodup
theorem MapW.at {w : World} {M : Nat} {L : List FW} (h : MapW w M L) : MapAt w M L := by
  obtain ⟨es, c, h1, h2, _⟩ := h; exact ⟨es, c, h1, h2⟩
theorem MapW.of_eq {w v : World} {M : Nat} {L : List FW} (h : MapW w M L) (e : v.heap[M]? = w.heap[M]?) : MapW v M L := by
  obtain ⟨es, c, hb, hs⟩ := h; exact ⟨es, c, e.trans hb, hs⟩
theorem MapW.lt {w : World} {M : Nat} {L : List FW} (h : MapW w M L) : M < w.heap.size := h.at.lt
theorem MapW.below {w v : World} {M K : Nat} {L : List FW} (h : MapW w M L) (hb : Below K w v) (hM : M < K) : MapW v M L := h.of_eq (hb.block M hM)
theorem findF_some : ∀ (L : List FW) (k : K4) (j i : Nat) (g : FW), findF L k j = some (i, g) → ∃ n, i = j + n ∧ L[n]? = some g ∧ g.k = k
  | [], k, j, i, g, h => by simp [findF] at h
  | f :: r, k, j, i, g, h => by
    unfold findF at h
    by_cases e : k = f.k
    · rw [if_pos e] at h
      simp at h
      obtain ⟨rfl, rfl⟩ := h
      exact ⟨0, rfl, rfl, e.symm⟩
    · rw [if_neg e] at h
      obtain ⟨n, h1, h2, h3⟩ := findF_some r k (j + 1) i g h
      exact ⟨n + 1, by omega, h2, h3⟩
theorem findF_none : ∀ (L : List FW) (k : K4) (j : Nat), findF L k j = none → ∀ f ∈ L, f.k ≠ k
  | [], _, _, _, f, hf => absurd hf (by simp)
  | g :: r, k, j, h, f, hf => by
    unfold findF at h
    by_cases e : k = g.k
    · rw [if_pos e] at h; simp at h
    · rw [if_neg e] at h
      rcases List.mem_cons.1 hf with rfl | hf
      · exact fun q => e q.symm
      · exact findF_none r k (j + 1) h f hf
theorem run_setW {w : World} {M : Nat} {L : List FW} (h : MapW w M L) (k : K4) (f : FW) (hk : f.k = k) (hn : findF L k 0 = none) : ∃ w', (Instr.mapUpdate 130 (.map (some M)) (kv k) (fv f)).run Try.prog w = .ok () w' ∧ MapW w' M (L ++ [f]) ∧ (∀ b, b ≠ M → w'.heap[b]? = w.heap[b]?) ∧ w'.heap.size = w.heap.size ∧ Below M w w' := by
  obtain ⟨es, clock, hb, hs, hbo, hnd⟩ := h
  refine ⟨{ w with heap := w.heap.setIfInBounds M (.map (es.push { key := kv k, val := fv f, born := clock }) (clock + 1)) }, by simp [Instr.mapUpdate, run_underlying Try.underlying130, MapKept.run_getObj_map hb, ckk, run_find k L es.toList w hs, hn, MapKept.run_setObj_map _ hb, Result.andThen], ?_, ?_, ?_, ?_⟩
  · refine ⟨_, _, (MapKept.heap_set hb).1, ?_, fun e he => ?_, ?_⟩
    · unfold sameL at *
      simp [hs, hk]
    · simp only [Array.toList_push, List.mem_append, List.mem_singleton] at he
      rcases he with he | rfl
      · have := hbo e he; omega
      · show clock < clock + 1; omega
    · simp only [Array.toList_push, List.map_append, List.map_cons, List.map_nil]
      refine List.nodup_append.2 ⟨hnd, by simp, fun a ha b hb' => ?_⟩
      obtain ⟨e, he, rfl⟩ := List.mem_map.1 ha
      simp at hb'
      have := hbo e he; omega
  · exact (MapKept.heap_set hb).2
  · simp
  · exact ⟨rfl, rfl, rfl, by simp, fun b hbM => (MapKept.heap_set hb).2 b (by omega)⟩
theorem same_bits (k : K4) : Instr.sameBits 10000 (kv k) (kv k) = true := by
  show (Instr.sameBits (9999 + 1) (.agg _) (.agg _)) = true
  unfold Instr.sameBits
  simp [Instr.sameBits]
theorem run_stays (k : K4) (w : World) : (Instr.keyThatStays (kv k) (kv k)).run Try.prog w = .ok (kv k) w := by
  unfold Instr.keyThatStays
  rw [same_bits]; rfl
theorem same_get {es : List MapEntry} {L : List FW} (h : sameL es L) (i : Nat) : es[i]?.map (fun e => (e.key, e.val)) = L[i]?.map (fun f => (kv f.k, fv f)) := by
  have := congrArg (fun l => l[i]?) h
  simpa [List.getElem?_map] using this
theorem run_setU {w : World} {M : Nat} {L : List FW} (h : MapW w M L) (k : K4) (i : Nat) (g f : FW) (hk : f.k = k) (hn : findF L k 0 = some (i, g)) : ∃ w', (Instr.mapUpdate 130 (.map (some M)) (kv k) (fv f)).run Try.prog w = .ok () w' ∧ MapW w' M (L.set i f) ∧ (∀ b, b ≠ M → w'.heap[b]? = w.heap[b]?) ∧ w'.heap.size = w.heap.size ∧ Below M w w' := by
  obtain ⟨es, clock, hb, hs, hbo, hnd⟩ := h
  obtain ⟨n, e1, e2, e3⟩ := findF_some L k 0 i g hn
  obtain rfl : i = n := by omega
  have hge := same_get hs i
  rw [e2] at hge
  obtain ⟨e, he, hek⟩ : ∃ e, es[i]? = some e ∧ e.key = kv k := by
    cases hq : es[i]? with
    | none => rw [Array.getElem?_toList, hq] at hge; simp at hge
    | some e => rw [Array.getElem?_toList, hq] at hge; simp at hge; exact ⟨e, rfl, by rw [← e3]; exact hge.1⟩
  refine ⟨{ w with heap := w.heap.setIfInBounds M (.map (es.modify i fun e => { e with key := kv k, val := fv f }) clock) }, ?_, ?_, ?_, ?_, ?_⟩
  · have hst := run_stays k w
    simp [Instr.mapUpdate, run_underlying Try.underlying130, MapKept.run_getObj_map hb, ckk, run_find k L es.toList w hs, hn, he, hek, hst, MapKept.run_setObj_map _ hb, Result.andThen]
  · refine ⟨_, _, (MapKept.heap_set hb).1, ?_, fun x hx => ?_, ?_⟩
    · unfold sameL
      apply List.ext_getElem?
      intro j
      rw [List.getElem?_map, List.getElem?_map, Array.getElem?_toList, Array.getElem?_modify, List.getElem?_set]
      by_cases hij : i = j
      · subst hij
        have hil : i < L.length := (List.getElem?_eq_some_iff.1 e2).1
        rw [if_pos rfl, if_pos rfl, if_pos hil, he]
        simp [hk]
      · rw [if_neg hij, if_neg hij, ← Array.getElem?_toList]
        exact same_get hs j
    · obtain ⟨j, hj, hxe⟩ := List.getElem_of_mem hx
      have hx2 : (es.modify i fun e => { e with key := kv k, val := fv f })[j]? = some x := by rw [← Array.getElem?_toList, ← hxe]; simp [hj]
      rw [Array.getElem?_modify] at hx2
      by_cases hij : i = j
      · subst hij
        rw [if_pos rfl, he] at hx2
        simp at hx2
        rw [← hx2]
        exact hbo e (by have := (Array.getElem?_eq_some_iff.1 he); obtain ⟨h1, h2⟩ := this; rw [← h2]; simp)
      · rw [if_neg hij] at hx2
        exact hbo x (by have := (Array.getElem?_eq_some_iff.1 hx2); obtain ⟨h1, h2⟩ := this; rw [← h2]; simp)
    · have : (es.modify i fun e => { e with key := kv k, val := fv f }).toList.map (·.born) = es.toList.map (·.born) := by
        apply List.ext_getElem?
        intro j
        rw [List.getElem?_map, List.getElem?_map, Array.getElem?_toList, Array.getElem?_modify, Array.getElem?_toList]
        by_cases hij : i = j
        · subst hij; rw [if_pos rfl, he]; rfl
        · rw [if_neg hij]
      rw [this]; exact hnd
  · exact (MapKept.heap_set hb).2
  · simp
  · exact ⟨rfl, rfl, rfl, by simp, fun b hbM => (MapKept.heap_set hb).2 b (by omega)⟩
/-- An iterator over the map: these flows are still to come. -/
def IterAt (w : World) (r M : Nat) (R : List FW) : Prop := ∃ (es : Array MapEntry) (clock since c0 : Nat) (seen : Array Nat), w.heap[r]? = some (.mapIter (some M) since seen c0) ∧ w.heap[M]? = some (.map es clock) ∧ since ≤ c0 ∧ since ≤ clock ∧ (∀ e ∈ es.toList, e.born < since) ∧ (es.toList.map (·.born)).Nodup ∧ sameL (leftOf es seen).toList R
theorem IterAt.below {w v : World} {r M K : Nat} {R : List FW} (h : IterAt w r M R) (hb : Below K w v) (hr : r < K) (hM : M < K) : IterAt v r M R := by
  obtain ⟨es, cl, si, c0, se, h1, h2, h3⟩ := h
  exact ⟨es, cl, si, c0, se, (hb.block r hr).trans h1, (hb.block M hM).trans h2, h3⟩
theorem leftOf_nil (es : Array MapEntry) : leftOf es #[] = es := by
  unfold leftOf
  apply Array.toList_inj.1
  simp
theorem iter_new {w : World} {M : Nat} {L : List FW} (h : MapW w M L) : ∃ clock, (Instr.range 130 (.map (some M))).run Try.prog w = .ok (.pointer (some ⟨w.heap.size, 0, none⟩)) (w.alloc (.mapIter (some M) clock #[] clock)) ∧ IterAt (w.alloc (.mapIter (some M) clock #[] clock)) w.heap.size M L := by
  have hlt := h.lt
  obtain ⟨es, clock, hb, hs, hbo, hnd⟩ := h
  refine ⟨clock, run_range_map w _ _ _ M es clock Try.underlying130 hb, es, clock, clock, clock, #[], heap_alloc_new _ _, (heap_alloc_old w _ hlt).trans hb, Nat.le_refl _, Nat.le_refl _, hbo, hnd, ?_⟩
  rw [leftOf_nil]; exact hs
theorem same_split {R : List FW} : ∀ {es : List MapEntry} {l1 l2 : List MapEntry} {e : MapEntry}, sameL (l1 ++ e :: l2) R → ∃ R1 f R2, R = R1 ++ f :: R2 ∧ e.key = kv f.k ∧ e.val = fv f ∧ sameL (l1 ++ l2) (R1 ++ R2) := by
  intro es l1 l2 e h
  unfold sameL at h
  rw [List.map_append, List.map_cons] at h
  have hl : l1.length ≤ R.length := by have := congrArg List.length h; simp at this; omega
  refine ⟨R.take l1.length, ?_⟩
  cases hd : R.drop l1.length with
  | nil =>
    have := congrArg List.length hd
    have h2 := congrArg List.length h
    simp at this h2; omega
  | cons f R2 =>
    have hR : R = R.take l1.length ++ f :: R2 := by rw [← hd, List.take_append_drop]
    rw [hR, List.map_append, List.map_cons] at h
    have hlen : (l1.map fun e => (e.key, e.val)).length = ((R.take l1.length).map fun f => (kv f.k, fv f)).length := by simp; omega
    obtain ⟨h1, h2⟩ := List.append_inj h hlen
    simp only [List.cons.injEq, Prod.mk.injEq] at h2
    refine ⟨f, R2, hR, h2.1.1, h2.1.2, ?_⟩
    unfold sameL
    rw [List.map_append, List.map_append, h1, h2.2]
theorem filter_out {l1 l2 : List MapEntry} {e : MapEntry} (hn : ((l1 ++ e :: l2).map (·.born)).Nodup) : (l1 ++ e :: l2).filter (fun x => !(x.born == e.born)) = l1 ++ l2 := by
  rw [List.map_append, List.map_cons] at hn
  obtain ⟨n1, n2, n3⟩ := List.nodup_append.1 hn
  have n4 := List.nodup_cons.1 n2
  rw [List.filter_append, List.filter_cons]
  rw [if_neg (by simp)]
  congr 1
  · refine List.filter_eq_self.2 fun x hx => ?_
    have : x.born ≠ e.born := n3 _ (List.mem_map.2 ⟨x, hx, rfl⟩) _ (List.mem_cons_self ..)
    simpa using this
  · refine List.filter_eq_self.2 fun x hx => ?_
    have : x.born ≠ e.born := fun q => n4.1 (by rw [← q]; exact List.mem_map.2 ⟨x, hx, rfl⟩)
    simpa using this
theorem left_push (es : Array MapEntry) (seen : Array Nat) (b : Nat) : (leftOf es (seen.push b)).toList = (leftOf es seen).toList.filter (fun x => !(x.born == b)) := by
  unfold leftOf
  rw [Array.toList_filter, Array.toList_filter, List.filter_filter]
  refine List.filter_congr fun x _ => ?_
  rw [contains_push, Bool.not_or, Bool.and_comm]
theorem left_nodup {es : Array MapEntry} {seen : Array Nat} (hn : (es.toList.map (·.born)).Nodup) : ((leftOf es seen).toList.map (·.born)).Nodup := by
  unfold leftOf
  rw [Array.toList_filter]
  exact List.Nodup.sublist (List.Sublist.map _ List.filter_sublist) hn
/-- The step. -/
theorem iter_next {w : World} {r M : Nat} {R : List FW} (h : IterAt w r M R) (ty : TypeId) :
    (R = [] ∧ (Instr.next (.pointer (some ⟨r, 0, none⟩)) false ty).run Try.prog w = .ok (.tuple #[.bool false]) w) ∨
    ∃ R1 f R2 w', R = R1 ++ f :: R2 ∧ (Instr.next (.pointer (some ⟨r, 0, none⟩)) false ty).run Try.prog w = .ok (.tuple #[.bool true, kv f.k, fv f]) w' ∧ IterAt w' r M (R1 ++ R2) ∧ Below r w w' ∧ w'.heap.size = w.heap.size ∧ (∀ b, b ≠ r → w'.heap[b]? = w.heap[b]?) ∧ (Instr.entry (.pointer (some ⟨r, 0, none⟩))).run Try.prog w' = .ok (.tuple #[kv f.k, fv f]) w' := by
  obtain ⟨es, clock, since, c0, seen, hr, hb, hsc, hsk, hold, hnd, hs⟩ := h
  have hrlt : r < w.heap.size := (Array.getElem?_eq_some_iff.1 hr).1
  have hne : r ≠ M := fun e => by rw [e, hb] at hr; cases hr
  have hmem : ∀ x ∈ (leftOf es seen).toList, x.born < since := fun x hx => hold x (mem_left hx).1
  have hln := left_nodup (seen := seen) hnd
  have hpl := fun e => left_push es seen e
  have hall : ∀ e ∈ (leftOf es seen).toList, e ∈ es.toList := fun e he => (mem_left he).1
  have hrun : ∀ (K : Result Value → Prop), (∀ x, (Instr.next (.pointer (some ⟨r, 0, none⟩)) false ty).run Try.prog w = x → K x) → K ((Instr.next (.pointer (some ⟨r, 0, none⟩)) false ty).run Try.prog w) := fun K h => h _ rfl
  simp only [Instr.next, getObj, Sem.run_bind, Sem.run, hr, hb, Result.andThen, next_test_false seen es since c0 hold hsc, Bool.false_eq_true, if_false]
  show (R = [] ∧ _) ∨ _
  have hleft : (Array.filter (fun e => !seen.contains e.born) es) = leftOf es seen := rfl
  rw [hleft]
  generalize leftOf es seen = L at hmem hs hln hpl hall ⊢
  have e1 : L.filter (fun x => decide (x.born < since)) = L := Array.filter_eq_self.2 (fun x hx => by simpa using hmem x (by simpa using hx))
  have e2 : L.filter (fun x => decide (x.born ≥ since)) = #[] := by
    rw [Array.filter_eq_empty_iff]
    intro x hx
    have := hmem x (by simpa using hx)
    simp
    omega
  simp only [e1, e2, Array.append_empty]
  by_cases h0 : L.size = 0
  · left
    have : L = #[] := Array.eq_empty_of_size_eq_zero h0
    subst this
    refine ⟨?_, by simp [choose, Sem.run, Question.forced]⟩
    unfold sameL at hs; simpa using hs
  · right
    have hne' : L.isEmpty = false := by simp [Array.isEmpty, h0]
    simp only [hne', Bool.false_eq_true, if_false, Array.empty_append, Array.size_map]
    have hch : ∃ (j : Nat) (w1 : World), j < L.size ∧ w1.heap = w.heap ∧ w1.os = w.os ∧ Below w.heap.size w w1 ∧ (choose (Question.mapNext L.size)).run Try.prog w = .ok j w1 := by
      by_cases hf : L.size ≤ 1
      · exact ⟨0, w, by omega, rfl, rfl, Below.refl _ _, by simp [choose, Sem.run, Question.forced, hf]⟩
      · exact ⟨_, w.drew, Nat.mod_lt _ (by omega), rfl, rfl, Below.drew (Below.refl _ _), by
          simp only [choose, Sem.run, Question.forced, decide_eq_true_eq, hf, if_false, Question.cut]
          rfl⟩
    obtain ⟨j, w1, hj, hhe, hos, hbel, hcr⟩ := hch
    obtain ⟨l1, l2, hl⟩ : ∃ l1 l2, L.toList = l1 ++ L[j] :: l2 := ⟨L.toList.take j, L.toList.drop (j + 1), by
      have : L.toList.drop j = L[j] :: L.toList.drop (j + 1) := by rw [List.drop_eq_getElem_cons (by simpa using hj)]; simp
      rw [← this, List.take_append_drop]⟩
    rw [hl] at hs hln
    obtain ⟨R1, f, R2, hR, hk, hv, hs2⟩ := same_split (es := []) hs
    have hr1 : w1.heap[r]? = some (.mapIter (some M) since seen c0) := by rw [hhe]; exact hr
    have hset : (setObj r (.mapIter (some M) since (seen.push L[j].born) clock)).run Try.prog w1 = .ok () { w1 with heap := w1.heap.setIfInBounds r (.mapIter (some M) since (seen.push L[j].born) clock) } := by
      simp only [setObj, Sem.run, hr1]
    have ho : ∀ b, b ≠ r → (w1.heap.setIfInBounds r (.mapIter (some M) since (seen.push L[j].born) clock))[b]? = w.heap[b]? := fun b hbr => by
      rw [Array.getElem?_setIfInBounds, if_neg (fun e => hbr e.symm), hhe]
    have hn : (w1.heap.setIfInBounds r (.mapIter (some M) since (seen.push L[j].born) clock))[r]? = some (.mapIter (some M) since (seen.push L[j].born) clock) := by
      rw [Array.getElem?_setIfInBounds, if_pos rfl, if_pos (by rw [hhe]; exact hrlt)]
    have hbM : (w1.heap.setIfInBounds r (.mapIter (some M) since (seen.push L[j].born) clock))[M]? = some (.map es clock) := (ho M (fun e => hne e.symm)).trans hb
    refine ⟨R1, f, R2, { w1 with heap := w1.heap.setIfInBounds r (.mapIter (some M) since (seen.push L[j].born) clock) }, hR, ?_, ?_, ?_, ?_, ho, ?_⟩
    · simp only [hcr, Array.getElem?_map, Array.getElem?_eq_getElem hj, Option.map_some, Sem.run_bind, hset, Result.andThen]
      rw [hk, hv]; rfl
    · refine ⟨es, clock, since, clock, seen.push L[j].born, hn, hbM, hsk, hsk, hold, hnd, ?_⟩
      rw [hpl, hl, filter_out hln]; exact hs2
    · refine (hbel.mono (Nat.le_of_lt hrlt)).trans ⟨rfl, rfl, rfl, by simp, fun b hbr => ?_⟩
      show (w1.heap.setIfInBounds r _)[b]? = w1.heap[b]?
      rw [Array.getElem?_setIfInBounds, if_neg (by omega)]
    · simp [hhe]
    · have hmj : L[j] ∈ es.toList := hall _ (by simp)
      have hf : es.find? (·.born == L[j].born) = some L[j] := by rw [← Array.find?_toList]; exact find_born L[j] es.toList hnd hmj
      simp only [Instr.entry, getObj, Sem.run_bind, Sem.run, hn, hbM, Result.andThen, Array.back?_push, bne_self_eq_false, Bool.false_eq_true, if_false, hf]
      rw [hk, hv]; rfl
section
variable {ops : Array Oper} {rest : List Oper} {o : Oper} {a : Act} {Q : Exit → Act → World → Prop}
theorem wpList_range_f {w : World} (hg : o.guard = none) (m : Operand) (hop : o.op = Op.range 130 m) (M : Nat) (L : List FW) (hm : a.eval m = .map (some M)) (h : MapW w M L)
    (hK : ∀ w', IterAt w' w.heap.size M L → Below w.heap.size w w' → w'.heap.size = w.heap.size + 1 → wpList Try.prog ops Q rest (a.put o.dst (.pointer (some ⟨w.heap.size, 0, none⟩))) w') : wpList Try.prog ops Q (o :: rest) a w := by
  refine wpList_plain hg fun K' hK' => ?_
  obtain ⟨c, hrun, hi⟩ := iter_new h
  unfold Oper.wp
  simp [execOp, hop, hm, hrun, Result.andThen]
  exact hK' _ _ (hK _ hi (Below.alloc (Below.refl _ _) (Nat.le_refl _) _) (by simp))
theorem wpList_next_f {w : World} (hg : o.guard = none) (it : Operand) (hop : o.op = Op.next it false) (r M : Nat) (R : List FW) (hit : a.eval it = .pointer (some ⟨r, 0, none⟩)) (h : IterAt w r M R)
    (hDone : R = [] → wpList Try.prog ops Q rest (a.put o.dst (.tuple #[.bool false])) w)
    (hMore : ∀ R1 f R2 w', R = R1 ++ f :: R2 → IterAt w' r M (R1 ++ R2) → Below r w w' → w'.heap.size = w.heap.size → (∀ b, b ≠ r → w'.heap[b]? = w.heap[b]?) → (Instr.entry (.pointer (some ⟨r, 0, none⟩))).run Try.prog w' = .ok (.tuple #[kv f.k, fv f]) w' → wpList Try.prog ops Q rest (a.put o.dst (.tuple #[.bool true, kv f.k, fv f])) w') : wpList Try.prog ops Q (o :: rest) a w := by
  refine wpList_plain hg fun K' hK' => ?_
  unfold Oper.wp
  rcases iter_next h o.type with ⟨h0, hrun⟩ | ⟨R1, f, R2, w', e1, hrun, h2, h3, h4, h5, h6⟩
  · simp [execOp, hop, hit, hrun, Result.andThen]
    exact hK' _ _ (hDone h0)
  · simp [execOp, hop, hit, hrun, Result.andThen]
    exact hK' _ _ (hMore R1 f R2 w' e1 h2 h3 h4 h5 h6)
end
end Go.Proofs.Ytljpiofpfankoaa
