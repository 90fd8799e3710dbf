/-
  A whole block loaded or stored at once, as one step of the walk. Conditions: the block is known whole.
-/
import Derived.Test.YtljpiofpfankoaaNum
import Derived.Deep.MidRow
import Derived.Tactics
namespace Go.Proofs.Ytljpiofpfankoaa
open Go.RowKit
set_option linter.unusedVariables false
set_option linter.unusedSimpArgs false
def setFrom (cs : Array Value) (o : Nat) : List Value → Array Value
  | [] => cs
  | v :: r => setFrom (cs.setIfInBounds o v) (o + 1) r
theorem setFrom_list : ∀ (vs rest pre : List Value), rest.length = vs.length → setFrom (pre ++ rest).toArray pre.length vs = (pre ++ vs).toArray
  | [], [], pre, _ => by simp [setFrom]
  | [], _ :: _, _, h => by simp at h
  | v :: vs, [], _, h => by simp at h
  | v :: vs, r :: rest, pre, h => by
    have ih := setFrom_list vs rest (pre ++ [v]) (by simpa using h)
    unfold setFrom
    rw [List.setIfInBounds_toArray]
    have e : (pre ++ r :: rest).set pre.length v = (pre ++ [v]) ++ rest := by
      rw [List.set_append_right _ _ (Nat.le_refl _)]; simp
    rw [e]
    simpa using ih
theorem setFrom_all (cs cs' : Array Value) (h : cs'.size = cs.size) : setFrom cs 0 cs'.toList = cs' := by
  have := setFrom_list cs'.toList cs.toList [] (by simp [h])
  simpa using this
theorem Blk.setCells {B : Nat} {t : TypeId} : ∀ (vs : List Value) (o : Nat) (w : World) (cs : Array Value), Blk w B cs t → Blk (w.setCells B o vs) B (setFrom cs o vs) t
  | [], _, _, _, h => h
  | v :: r, o, w, cs, h => Blk.setCells r (o + 1) _ _ (h.set_same rfl)
theorem Blk.setCells_other {B b : Nat} {t : TypeId} {c : Array Value} (hb : b ≠ B) : ∀ (vs : List Value) (o : Nat) (w : World), Blk w b c t → Blk (w.setCells B o vs) b c t
  | [], _, _, h => h
  | v :: r, o, w, h => Blk.setCells_other hb r (o + 1) _ (h.set_other hb _)
theorem Below.setCells {K B : Nat} {u : World} (hK : K ≤ B) : ∀ (vs : List Value) (o : Nat) (w : World), Below K u w → Below K u (w.setCells B o vs)
  | [], _, _, h => h
  | v :: r, o, w, h => Below.setCells hK r (o + 1) _ (h.setCell hK _)
theorem setCells_size (B : Nat) : ∀ (vs : List Value) (o : Nat) (w : World), (w.setCells B o vs).heap.size = w.heap.size
  | [], _, _ => rfl
  | v :: r, o, w => by rw [World.setCells, setCells_size B r]; simp [World.setCell]
/-- A store of all of a block. -/
theorem store_blk {P : Program} {ops : Array Oper} {rest : List Oper} {op : Oper} {a : Act} {w : World} {Q : Exit → Act → World → Prop} (ty : TypeId) (x y : Operand) (B : Nat) (cs cs' : Array Value) (t : TypeId)
    (hgd : op.guard = none) (ho : op.op = .store ty x y) (hx : a.eval x = .pointer (some ⟨B, 0, none⟩)) (hy : a.eval y = .agg cs') (hB : Blk w B cs t) (hsz : cs'.size = cs.size) (hi : (P.info? ty).map (·.size) = some cs'.size) (h1 : cs'.all (·.oneCell') = true)
    (h : ∀ w', Blk w' B cs' t → (∀ (K : Nat) (u : World), K ≤ B → Below K u w → Below K u w') → (∀ (b : Nat) (c : Array Value) (s : TypeId), b ≠ B → Blk w b c s → Blk w' b c s) → w'.heap.size = w.heap.size → wpList P ops Q rest (a.put op.dst undef) w') : wpList P ops Q (op :: rest) a w := by
  refine wpList_store_mid hgd ty x y ho B 0 cs' hx hy (fun j hj => ?_) hi h1 ?_
  · refine ⟨?_, hB.frozen _⟩
    rw [hB.cell, Nat.zero_add, Array.getElem?_eq_getElem (by omega)]; rfl
  · have hb := Blk.setCells cs'.toList 0 w cs hB
    rw [setFrom_all cs cs' hsz] at hb
    exact h _ hb (fun K u hK hu => Below.setCells hK _ _ _ hu) (fun b c s hne hbb => Blk.setCells_other hne _ _ _ hbb) (setCells_size B _ _ _)
/-- A load of all of a block. -/
theorem load_blk {P : Program} {ops : Array Oper} {rest : List Oper} {op : Oper} {a : Act} {w : World} {Q : Exit → Act → World → Prop} (ty : TypeId) (x : Operand) (B : Nat) (cs : Array Value) (t : TypeId) (d : TypeDesc)
    (hgd : op.guard = none) (ho : op.op = .load ty x) (hx : a.eval x = .pointer (some ⟨B, 0, none⟩)) (hB : Blk w B cs t) (hu : P.underlying ty = some d) (hd : d.isRow = true) (hi : (P.info? ty).map (·.size) = some cs.size)
    (h : wpList P ops Q rest (a.put op.dst (.agg cs)) w) : wpList P ops Q (op :: rest) a w := by
  refine wpList_load_mid hgd ty x ho B 0 hx cs.toList d (fun j v hj => ?_) hu hd (by simpa using hi) (by simpa using h)
  rw [hB.cell, Nat.zero_add]; simpa using hj
/-- A result that lies in a block: the block's cells. -/
theorem results_blk {P : Program} {fn : Func} {s : Tmp} {T : TypeId} (B : Nat) (cs : Array Value) (t : TypeId) (d : TypeDesc) (tmps : Array Value) (w : World)
    (h : fn.results = #[.cell s T]) (hx : tmps.getD s undef = .pointer (some ⟨B, 0, none⟩)) (hB : Blk w B cs t) (hu : P.underlying T = some d) (hd : d.isRow = true) (hi : (P.info? T).map (·.size) = some cs.size) : (results fn tmps).run P w = .ok (.agg cs) w := by
  have hl := run_loadVar_mid (P := P) w B 0 T cs.toList d (fun j v hj => by rw [hB.cell, Nat.zero_add]; simpa using hj) hu hd (by simpa using hi)
  simp only [results, h]
  have hx' : tmps[s]?.getD undef = .pointer (some ⟨B, 0, none⟩) := by simpa [Array.getD_eq_getD_getElem?] using hx
  simp [Sem.run_bind, Result.andThen, hx', asAddr, hl]
end Go.Proofs.Ytljpiofpfankoaa
