/-
  Maps from packets' headers to flows, as lists: looking up, setting, counting. Conditions: the map's entries are known.
-/
import Derived.Test.YtljpiofpfankoaaFlA
import Derived.MapKept
import Derived.WideMake
import Derived.ChangeKeysEq
namespace Go.Proofs.Ytljpiofpfankoaa
open Go.RowKit Go.Sort
set_option linter.unusedVariables false
set_option linter.unusedSimpArgs false
structure FW where
  (k : K4)
  (p b : Int)
abbrev fv (f : FW) : Value := .agg #[.int .u16 f.k.a, .int .u16 f.k.b, .int .u16 f.k.c, .int .u16 f.k.d, .int .u64 f.p, .int .u64 f.b]
theorem k4_eq {x y : K4} : x = y ↔ x.a = y.a ∧ x.b = y.b ∧ x.c = y.c ∧ x.d = y.d := by
  cases x; cases y; simp
instance : DecidableEq K4 := fun x y => decidable_of_iff _ k4_eq.symm
theorem u16_cell (k : Nat) (w : World) (x y : Int) : (Op.equalIn (k + 1) 46 (.int .u16 x) (.int .u16 y)).run Try.prog w = .ok (x == y) w := by simp [Op.equalIn, Try.underlying46, go_sem]
theorem part16 (xs : Array Value) (off : Nat) (v : Value) (w : World) (h : xs[off]? = some v) : (part 46 xs off).run Try.prog w = .ok v w :=
  run_part_plain (P := Try.prog) w (by kernel_rfl) h
theorem eqkIn (d : Nat) (k j : K4) (w : World) : (Op.equalIn (d + 2) 48 (kv k) (kv j)).run Try.prog w = .ok (decide (k = j)) w := by
  have hc : Try.prog.cellsOf 46 = 1 := by kernel_rfl
  obtain ⟨i16, hi16⟩ := info_of_underlying Try.underlying46
  rw [run_equalIn_array (P := Try.prog) w (d + 1) _ _ Try.underlying48 hi16, hc]
  have p0 : ∀ (x0 x1 x2 x3 : Int) (v : World), (part 46 #[.int .u16 x0, .int .u16 x1, .int .u16 x2, .int .u16 x3] 0).run Try.prog v = .ok (.int .u16 x0) v := fun _ _ _ _ v => part16 _ _ _ v rfl
  have p1 : ∀ (x0 x1 x2 x3 : Int) (v : World), (part 46 #[.int .u16 x0, .int .u16 x1, .int .u16 x2, .int .u16 x3] 1).run Try.prog v = .ok (.int .u16 x1) v := fun _ _ _ _ v => part16 _ _ _ v rfl
  have p2 : ∀ (x0 x1 x2 x3 : Int) (v : World), (part 46 #[.int .u16 x0, .int .u16 x1, .int .u16 x2, .int .u16 x3] 2).run Try.prog v = .ok (.int .u16 x2) v := fun _ _ _ _ v => part16 _ _ _ v rfl
  have p3 : ∀ (x0 x1 x2 x3 : Int) (v : World), (part 46 #[.int .u16 x0, .int .u16 x1, .int .u16 x2, .int .u16 x3] 3).run Try.prog v = .ok (.int .u16 x3) v := fun _ _ _ _ v => part16 _ _ _ v rfl
  have e := fun v x y => u16_cell d v x y
  by_cases ha : k.a = j.a <;> by_cases hb : k.b = j.b <;> by_cases hc' : k.c = j.c <;> by_cases hd : k.d = j.d <;>
    simp [Op.eqItems, List.range, List.range.loop, Sem.run_bind, Result.andThen, p0, p1, p2, p3, e, k4_eq, ha, hb, hc', hd]
theorem eqk (k j : K4) (w : World) : (Op.equal 48 (kv k) (kv j)).run Try.prog w = .ok (decide (k = j)) w := by
  show (Op.equalIn 10000 _ _ _).run Try.prog w = _
  exact eqkIn 9998 k j w
theorem ckk (em : Bool) (k : K4) (w : World) : (Instr.checkKey em 10000 48 (kv k)).run Try.prog w = .ok () w := by
  have hs : ∀ v, (sizeOf 46).run Try.prog v = .ok 1 v := fun _ => by kernel_rfl
  have p0 : ∀ (v : World), (part 46 #[.int .u16 k.a, .int .u16 k.b, .int .u16 k.c, .int .u16 k.d] 0).run Try.prog v = .ok (.int .u16 k.a) v := fun v => part16 _ _ _ v rfl
  have p1 : ∀ (v : World), (part 46 #[.int .u16 k.a, .int .u16 k.b, .int .u16 k.c, .int .u16 k.d] 1).run Try.prog v = .ok (.int .u16 k.b) v := fun v => part16 _ _ _ v rfl
  have p2 : ∀ (v : World), (part 46 #[.int .u16 k.a, .int .u16 k.b, .int .u16 k.c, .int .u16 k.d] 2).run Try.prog v = .ok (.int .u16 k.c) v := fun v => part16 _ _ _ v rfl
  have p3 : ∀ (v : World), (part 46 #[.int .u16 k.a, .int .u16 k.b, .int .u16 k.c, .int .u16 k.d] 3).run Try.prog v = .ok (.int .u16 k.d) v := fun v => part16 _ _ _ v rfl
  have hk : ∀ (x : Int) (v : World), (Instr.checkKey em 9999 46 (.int .u16 x)).run Try.prog v = .ok () v := fun x v => MapKept.run_checkKey (P := Try.prog) (w := v) (k := .int .u16 x) Try.underlying46 rfl em 9998
  show (Instr.checkKey em (9999 + 1) _ _).run Try.prog w = _
  unfold Instr.checkKey
  simp only [Sem.run_bind, run_underlying Try.underlying48, Result.andThen]
  simp only [Std.Legacy.Range.forIn_eq_forIn_range', Std.Legacy.Range.size, Nat.sub_zero, Nat.add_one_sub_one, Nat.div_one]
  simp [List.range', List.forIn_cons, Sem.run_bind, Result.andThen, hs, p0, p1, p2, p3, hk]
def findF : List FW → K4 → Nat → Option (Nat × FW)
  | [], _, _ => none
  | f :: r, k, i => if k = f.k then some (i, f) else findF r k (i + 1)
def sameL (es : List MapEntry) (L : List FW) : Prop := es.map (fun e => (e.key, e.val)) = L.map (fun f => (kv f.k, fv f))
theorem run_asking (k : K4) : ∀ (L : List FW) (es : List MapEntry) (i : Nat) (w : World), sameL es L → (Instr.findAsking 48 (kv k) es i).run Try.prog w = .ok ((findF L k i).map fun p => (p.1, fv p.2)) w
  | [], es, i, w, h => by
    have : es = [] := by unfold sameL at h; simpa using h
    subst this; simp [Instr.findAsking, findF]
  | f :: L, es, i, w, h => by
    unfold sameL at h
    cases es with
    | nil => simp at h
    | cons e es =>
      simp only [List.map_cons, List.cons.injEq, Prod.mk.injEq] at h
      obtain ⟨⟨h1, h2⟩, h3⟩ := h
      have ih := run_asking k L es (i + 1) w h3
      unfold Instr.findAsking findF
      rw [h1]
      simp only [Sem.run_bind, eqk, Result.andThen]
      by_cases he : k = f.k
      · simp [he, h2]
      · simp [he, ih]
theorem run_find (k : K4) (L : List FW) (es : List MapEntry) (w : World) (h : sameL es L) : (Instr.findKey 48 (kv k) es).run Try.prog w = .ok ((findF L k 0).map fun p => (p.1, fv p.2)) w := by
  have ha := run_asking k L es 0 w h
  unfold Instr.findKey
  simp only [Sem.run_bind, run_underlying Try.underlying48, Result.andThen]
  cases es with
  | nil =>
    have : L = [] := by unfold sameL at h; cases L <;> simp_all
    subst this
    simp [Instr.findNow, findF]
  | cons e es =>
    have : Instr.findNow (.array 4 46) (kv k) (e :: es) 0 = none := by simp [Instr.findNow, Instr.sameNow]
    rw [this]; exact ha
/-- The map that lies in block M has these flows, in this order. -/
def MapAt (w : World) (M : Nat) (L : List FW) : Prop := ∃ (es : Array MapEntry) (clock : Nat), w.heap[M]? = some (.map es clock) ∧ sameL es.toList L
def fz (k : K4) : FW := ⟨⟨0, 0, 0, 0⟩, 0, 0⟩
theorem run_lookupF {w : World} {M : Nat} {L : List FW} (h : MapAt w M L) (k : K4) : (Instr.lookup 130 (.map (some M)) (kv k) true).run Try.prog w = .ok (.tuple #[match findF L k 0 with | some p => fv p.2 | none => fv ⟨⟨0, 0, 0, 0⟩, 0, 0⟩, .bool (findF L k 0).isSome]) w := by
  obtain ⟨es, clock, hb, hs⟩ := h
  have hz : ∀ v, (zeroValue 88).run Try.prog v = .ok (fv ⟨⟨0, 0, 0, 0⟩, 0, 0⟩) v := fun _ => by kernel_rfl
  unfold Instr.lookup
  simp only [Sem.run_bind, run_underlying Try.underlying130, Result.andThen, MapKept.run_getObj_map hb, Sem.run_pure, ckk, run_find k L es.toList w hs]
  cases hf : findF L k 0 with
  | none => simp [hz, Result.andThen]
  | some p => simp [Result.andThen]
theorem run_lookupF1 {w : World} {M : Nat} {L : List FW} (h : MapAt w M L) (k : K4) : (Instr.lookup 130 (.map (some M)) (kv k) false).run Try.prog w = .ok (match findF L k 0 with | some p => fv p.2 | none => fv ⟨⟨0, 0, 0, 0⟩, 0, 0⟩) w := by
  obtain ⟨es, clock, hb, hs⟩ := h
  have hz : ∀ v, (zeroValue 88).run Try.prog v = .ok (fv ⟨⟨0, 0, 0, 0⟩, 0, 0⟩) v := fun _ => by kernel_rfl
  unfold Instr.lookup
  simp only [Sem.run_bind, run_underlying Try.underlying130, Result.andThen, MapKept.run_getObj_map hb, Sem.run_pure, ckk, run_find k L es.toList w hs]
  cases hf : findF L k 0 with
  | none => simp [hz, Result.andThen]
  | some p => simp [Result.andThen]
theorem run_lenF {w : World} {M : Nat} {L : List FW} (h : MapAt w M L) : (Builtin.len_ #[130] 3 #[.map (some M)]).run Try.prog w = .ok (.int .i64 L.length) w := by
  obtain ⟨es, clock, hb, hs⟩ := h
  have : es.size = L.length := by
    have := congrArg List.length hs
    simpa using this
  simp [Builtin.len_, run_underlying Try.underlying130, MapKept.run_getObj_map hb, Result.andThen, go_sem, this]
/-- A flow that is not there is put behind the others. -/
theorem run_setF {w : World} {M : Nat} {L : List FW} (h : MapAt w M L) (k : K4) (f : FW) (hk : f.k = k) (hn : findF L k 0 = none) : ∃ w', (Instr.mapUpdate 130 (.map (some M)) (kv k) (fv f)).run Try.prog w = .ok () w' ∧ MapAt w' M (L ++ [f]) ∧ (∀ b, b ≠ M → w'.heap[b]? = w.heap[b]?) ∧ w'.heap.size = w.heap.size ∧ Below M w w' := by
  obtain ⟨es, clock, hb, hs⟩ := h
  refine ⟨{ w with heap := w.heap.setIfInBounds M (.map (es.push { key := kv k, val := fv f, born := clock }) (clock + 1)) }, by simp [Instr.mapUpdate, run_underlying Try.underlying130, MapKept.run_getObj_map hb, ckk, run_find k L es.toList w hs, hn, MapKept.run_setObj_map _ hb, Result.andThen], ?_, ?_, ?_, ?_⟩
  · refine ⟨_, _, (MapKept.heap_set hb).1, ?_⟩
    unfold sameL at *
    simp [hs, hk]
  · exact (MapKept.heap_set hb).2
  · simp
  · exact ⟨rfl, rfl, rfl, by simp, fun b hbM => (MapKept.heap_set hb).2 b (by omega)⟩
end Go.Proofs.Ytljpiofpfankoaa
