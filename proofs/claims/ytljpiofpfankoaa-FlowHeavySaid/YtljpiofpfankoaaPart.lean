/-
  A store into a part of a block, as one step of the walk. Conditions: the block is known whole.
-/
import Derived.Test.YtljpiofpfankoaaBlk
import Derived.Test.YtljpiofpfankoaaSink
namespace Go.Proofs.Ytljpiofpfankoaa
open Go.RowKit Go.Sort
set_option linter.unusedVariables false
set_option linter.unusedSimpArgs false
/-- A store of a part of a block. -/
theorem store_part {P : Program} {ops : Array Oper} {rest : List Oper} {op : Oper} {a : Act} {w : World} {Q : Exit → Act → World → Prop} (ty : TypeId) (x y : Operand) (B o : Nat) (cs cs' cs'' : Array Value) (t : TypeId)
    (hgd : op.guard = none) (ho : op.op = .store ty x y) (hx : a.eval x = .pointer (some ⟨B, o, none⟩)) (hy : a.eval y = .agg cs') (hB : Blk w B cs t) (hsz : o + cs'.size ≤ cs.size) (hset : setFrom cs o cs'.toList = cs'') (hi : (P.info? ty).map (·.size) = some cs'.size) (h1 : cs'.all (·.oneCell') = true)
    (h : ∀ w', Blk w' B cs'' t → (∀ (K : Nat) (u : World), K ≤ B → Below K u w → Below K u w') → (∀ (b : Nat) (c : Array Value) (s : TypeId), b ≠ B → Blk w b c s → Blk w' b c s) → w'.heap.size = w.heap.size → wpList P ops Q rest (a.put op.dst undef) w') : wpList P ops Q (op :: rest) a w := by
  refine wpList_store_mid hgd ty x y ho B o cs' hx hy (fun j hj => ?_) hi h1 ?_
  · refine ⟨?_, hB.frozen _⟩
    rw [hB.cell, Array.getElem?_eq_getElem (by omega)]; rfl
  · have hb := Blk.setCells cs'.toList o w cs hB
    rw [hset] at hb
    exact h _ hb (fun K u hK hu => Below.setCells hK _ _ _ hu) (fun b c s hne hbb => Blk.setCells_other hne _ _ _ hbb) (setCells_size B _ _ _)
/-- A load of a part of a block. -/
theorem load_part {P : Program} {ops : Array Oper} {rest : List Oper} {op : Oper} {a : Act} {w : World} {Q : Exit → Act → World → Prop} (ty : TypeId) (x : Operand) (B o : Nat) (cs cs' : Array Value) (t : TypeId) (d : TypeDesc)
    (hgd : op.guard = none) (ho : op.op = .load ty x) (hx : a.eval x = .pointer (some ⟨B, o, none⟩)) (hB : Blk w B cs t) (hc : ∀ j v, cs'.toList[j]? = some v → cs[o + j]? = some v) (hu : P.underlying ty = some d) (hd : d.isRow = true) (hi : (P.info? ty).map (·.size) = some cs'.size)
    (h : wpList P ops Q rest (a.put op.dst (.agg cs')) w) : wpList P ops Q (op :: rest) a w := by
  refine wpList_load_mid hgd ty x ho B o hx cs'.toList d (fun j v hj => ?_) hu hd (by simpa using hi) (by simpa using h)
  rw [hB.cell]; exact hc j v hj
/-- A load of all of a block, in a walk of a region whose operations only read. -/
theorem quiet_load {P : Program} {ops : Array Oper} {rest : List Oper} {op : Oper} {a : Act} {v : World} {Q : Act → Prop} (ty : TypeId) (x : Operand) (B : Nat) (cs : Array Value) (t : TypeId) (d : TypeDesc)
    (ho : op.op = .load ty x) (hw : Region.wanted op (yielded ops a.tmps) = true) (hx : a.eval x = .pointer (some ⟨B, 0, none⟩)) (hB : Blk v B cs t) (hu : P.underlying ty = some d) (hd : d.isRow = true) (hi : (P.info? ty).map (·.size) = some cs.size)
    (h : wpQuiet P ops (fun w' => ∃ p : Regrown, w' = grow (redrawn v p.d) p.os) Q rest (a.put op.dst (.agg cs))) : wpQuiet P ops (fun w' => ∃ p : Regrown, w' = grow (redrawn v p.d) p.os) Q (op :: rest) a := by
  refine wpQuiet_step fun K hK => ?_
  rw [if_pos hw]
  refine ⟨.agg cs, fun w' hw' => ?_, hK _ h⟩
  obtain ⟨p, rfl⟩ := hw'
  have hb : Blk (grow (redrawn v p.d) p.os) B cs t := Blk.below hB (below_regrown _ _ _) hB.size
  have hl := run_loadVar_mid (P := P) (grow (redrawn v p.d) p.os) B 0 ty cs.toList d (fun j u hj => by rw [hb.cell, Nat.zero_add]; simpa using hj) hu hd (by simpa using hi)
  unfold Oper.quietAt execOp
  simp only [ho, hx, Instr.loadAt, Instr.sureAddr, Sem.run_bind, Sem.run_pure, Result.andThen_ok, hl, Oper.quietUpon]
  exact ⟨trivial, by simp⟩
end Go.Proofs.Ytljpiofpfankoaa
