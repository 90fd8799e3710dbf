/-
  A limit's acts: what holds of it behind them; the slice of its wakes. Conditions: a linear or concave curve, ticks and bytes that are small.
-/
import Derived.Test.YtnkpoelljfbefaaLawG1
import Derived.Deep.AppendLies
import Derived.Laws.OwnMore
import Derived.OwnWalk
import Derived.Deep.CutRange
import Derived.Deep.DeepCutAuto
namespace Go.Proofs.Ytnkpoelljfbefaa
open Go.ChangeShapes Go.WideShapes Go.ChangeAt Go.RowKit
open Go.Sort
set_option linter.unusedVariables false
set_option linter.unusedSimpArgs false
theorem act22list3 {α : Type} {l : List α} (h : l.length = 3) : ∃ a0 a1 a2, l = [a0, a1, a2] := by
  match l, h with
  | [a0, a1, a2], _ => exact ⟨a0, a1, a2, rfl⟩
theorem cells_act22 {H : Type} {w : World} {base : Nat} {spare : Nat → Bool} {held : Bool} {enc : TypeId × Value → H} {fuel : Nat} {c0 c1 c2 : Value} {x : DataW H × List MemPlace} (hf : DataW.trod enc Try.prog w base spare held fuel 80 [c0, c1, c2] = some x) :
    ∃ (x0 : Int) (x1 : Int) (x2 : Int), [c0, c1, c2] = [.int .i64 x0, .int .i64 x1, .int .u64 x2] ∧ (-9223372036854775808 ≤ x0 ∧ x0 ≤ 9223372036854775807) ∧ (-9223372036854775808 ≤ x1 ∧ x1 ≤ 9223372036854775807) ∧ (0 ≤ x2 ∧ x2 ≤ 18446744073709551615) := by
  have k0 : Try.prog.cellsOf 80 = 3 := by kernel_rfl
  have k1 : Try.prog.cellsOf 3 = 1 := by kernel_rfl
  have k2 : Try.prog.cellsOf 22 = 1 := by kernel_rfl
  obtain ⟨ys0, m0, _, _, _, hl0, hx0⟩ := DataW.trod_struct Try.underlying80 hf
  obtain ⟨y0_0, y0_1, y0_2, rfl⟩ := act22list3 hl0
  have q0_0 := hx0 0 _ rfl
  have q0_1 := hx0 1 _ rfl
  have q0_2 := hx0 2 _ rfl
  simp [k1, k2] at q0_0 q0_1 q0_2
  obtain ⟨x0, e0, _, w0⟩ := DataW.trod_int Try.underlying3 q0_0
  obtain ⟨x1, e1, _, w1⟩ := DataW.trod_int Try.underlying3 q0_1
  obtain ⟨x2, e2, _, w2⟩ := DataW.trod_int Try.underlying22 q0_2
  simp at e0 e1 e2
  subst e0 e1 e2
  exact ⟨x0, x1, x2, rfl, bounds_i64 w0, bounds_i64 w1, bounds_u64 w2⟩
set_option maxRecDepth 100000 in
theorem open_act22 {H : Type} {w : World} {base : Nat} {spare : Nat → Bool} {held : Bool} {enc : TypeId × Value → H} {r : Reach} {b0 : Nat} {v : Value} {d : DataW H} {p : List MemPlace} (hv : Value.okWide Try.prog w r b0 80 v) (h : DataW.Trod enc Try.prog w base spare held 80 v d p) :
    ∃ (x0 : Int) (x1 : Int) (x2 : Int), v = .agg #[.int .i64 x0, .int .i64 x1, .int .u64 x2] ∧ (-9223372036854775808 ≤ x0 ∧ x0 ≤ 9223372036854775807) ∧ (-9223372036854775808 ≤ x1 ∧ x1 ≤ 9223372036854775807) ∧ (0 ≤ x2 ∧ x2 ≤ 18446744073709551615) := by
  obtain ⟨cs, rfl, hsz⟩ := okWide_struct Try.underlying80 hv
  obtain ⟨l⟩ := cs
  obtain ⟨c0, c1, c2, rfl⟩ := act22list3 (l := l) (hsz.trans (show Try.prog.cellsOf 80 = 3 by kernel_rfl))
  obtain ⟨fuel, hf⟩ := h
  obtain ⟨x0, x1, x2, e, bs⟩ := cells_act22 (x := (d, p)) (show DataW.trod enc Try.prog w base spare held fuel 80 [c0, c1, c2] = some (d, p) by simpa [Value.cells] using hf)
  simp at e
  obtain ⟨rfl, rfl, rfl⟩ := e
  exact ⟨x0, x1, x2, rfl, bs⟩
/-- Structs that came in: each one's cells. -/
def Rows_act22 (w : World) (a : Option Addr) (len : Nat) : Prop :=
  len = 0 ∨ ∃ b off, a = some ⟨b, off, none⟩ ∧ b < w.heap.size ∧ ∀ i, i < len → ∃ (x0 : Int) (x1 : Int) (x2 : Int), (-9223372036854775808 ≤ x0 ∧ x0 ≤ 9223372036854775807) ∧ (-9223372036854775808 ≤ x1 ∧ x1 ≤ 9223372036854775807) ∧ (0 ≤ x2 ∧ x2 ≤ 18446744073709551615) ∧ w.cell? ⟨b, off + i * 3, none⟩ = some (.int .i64 x0) ∧ w.cell? ⟨b, off + i * 3 + 1, none⟩ = some (.int .i64 x1) ∧ w.cell? ⟨b, off + i * 3 + 2, none⟩ = some (.int .u64 x2)
theorem act22_cell_lt {w : World} {b o : Nat} {v : Value} (h : w.cell? ⟨b, o, none⟩ = some v) : b < w.heap.size := by
  by_cases hb : b < w.heap.size
  · exact hb
  · simp [World.cell?, Array.getElem?_eq_none (show w.heap.size ≤ b by omega)] at h
theorem act22_cell_add {w : World} {b off : Nat} {n j : Nat} {v : Option Value} (h : w.cell? (((⟨b, off, none⟩ : Addr).add n).add j) = v) : w.cell? ⟨b, off + n + j, none⟩ = v := by
  rw [Go.Deep.add_add] at h
  unfold Addr.add at h
  by_cases h0 : n + j = 0
  · have e1 : n = 0 := by omega
    have e2 : j = 0 := by omega
    subst e1 e2; simpa using h
  · rw [if_neg h0] at h
    rw [show off + n + j = off + (n + j) by omega]; exact h
theorem open_act22s {H : Type} {w : World} {base : Nat} {spare : Nat → Bool} {held : Bool} {enc : TypeId × Value → H} {s : Option Addr} {len cap fuel : Nat} {x : DataW H × List MemPlace} (h : DataW.trod enc Try.prog w base spare held fuel 73 [.slice s len cap] = some x) : Rows_act22 w s len ∧ len ≤ maxLen := by
  rcases Go.Deep.open_slice Try.underlying73 h with ⟨hcs, _⟩ | ⟨a, len', cap', m, n, D, Pl, hcs, hb, hl, hm, hmm, hx, hi⟩
  · simp at hcs
    obtain ⟨rfl, rfl, rfl⟩ := hcs
    exact ⟨.inl rfl, by unfold maxLen; omega⟩
  · simp at hcs
    obtain ⟨rfl, rfl, rfl⟩ := hcs
    refine ⟨?_, by omega⟩
    by_cases h0 : len = 0
    · exact .inl h0
    right
    have hlm : len ≤ m := by rw [hmm]; split <;> omega
    have kN : Try.prog.cellsOf 80 = 3 := by kernel_rfl
    rw [kN] at hi
    have hall : ∀ i, i < len → ∃ (x0 : Int) (x1 : Int) (x2 : Int), (-9223372036854775808 ≤ x0 ∧ x0 ≤ 9223372036854775807) ∧ (-9223372036854775808 ≤ x1 ∧ x1 ≤ 9223372036854775807) ∧ (0 ≤ x2 ∧ x2 ≤ 18446744073709551615) ∧ ∀ j, j < 3 → w.cell? ((a.add (i * 3)).add j) = ([.int .i64 x0, .int .i64 x1, .int .u64 x2] : List Value)[j]? := by
      intro i hil
      obtain ⟨cs', hc, ht⟩ := hi i (by omega)
      obtain ⟨_, hlen, hat⟩ := World.cells?_some hc
      obtain ⟨c0, c1, c2, rfl⟩ := act22list3 hlen
      obtain ⟨x0, x1, x2, e, n0, n1, n2⟩ := cells_act22 ht
      rw [e] at hat
      exact ⟨x0, x1, x2, n0, n1, n2, hat⟩
    obtain ⟨b, off, spot⟩ := a
    obtain ⟨_, _, _, _, _, _, hc0⟩ := hall 0 (by omega)
    have hspot : spot = none := by
      have := hc0 0 (by omega)
      simpa [Addr.add] using World.cell?_spot (by simpa [Addr.add] using this)
    subst hspot
    refine ⟨b, off, rfl, act22_cell_lt (by have := act22_cell_add (hc0 0 (by omega)); simpa using this), fun i hil => ?_⟩
    obtain ⟨x0, x1, x2, n0, n1, n2, hc⟩ := hall i hil
    exact ⟨x0, x1, x2, n0, n1, n2, act22_cell_add (hc 0 (by omega)), act22_cell_add (hc 1 (by omega)), act22_cell_add (hc 2 (by omega))⟩
/-- All blocks but one are as they were. -/
def KeptBut (L : Nat) (w w' : World) : Prop := Below L w w' ∧ ∀ B, B < w.heap.size → B ≠ L → w'.heap[B]? = w.heap[B]?
theorem setCells_kept {B : Nat} : ∀ (vs : List Value) (o : Nat) (u w : World), KeptBut B u w → KeptBut B u (w.setCells B o vs)
  | [], _, _, _, h => h
  | v :: r, o, u, w, h => setCells_kept r (o + 1) u _ ⟨h.1.setCell (Nat.le_refl _) _, fun b hb hne => by rw [Below.heap_setCell _ _ _ _ hne]; exact h.2 b hb hne⟩
theorem Blk.kept {w w' : World} {L B : Nat} {cs : Array Value} {t : TypeId} (h : Blk w B cs t) (hk : KeptBut L w w') (hne : B ≠ L) : Blk w' B cs t := by
  have hs := h.size
  unfold Blk at *; rw [hk.2 B hs hne]; exact h
/-- A store of all of a block; what else there is stays. -/
theorem store_blkk {P : Program} {ops : Array Oper} {rest : List Oper} {op : Oper} {a : Act} {w : World} {Q : Exit → Act → World → Prop} (ty : TypeId) (x y : Operand) (B : Nat) (cs cs' : Array Value) (t : TypeId)
    (hgd : op.guard = none) (ho : op.op = .store ty x y) (hx : a.eval x = .pointer (some ⟨B, 0, none⟩)) (hy : a.eval y = .agg cs') (hB : Blk w B cs t) (hsz : cs'.size = cs.size) (hi : (P.info? ty).map (·.size) = some cs'.size) (h1 : cs'.all (·.oneCell') = true)
    (h : ∀ w', Blk w' B cs' t → KeptBut B w w' → w'.heap.size = w.heap.size → wpList P ops Q rest (a.put op.dst undef) w') : wpList P ops Q (op :: rest) a w := by
  refine wpList_store_mid hgd ty x y ho B 0 cs' hx hy (fun j hj => ?_) hi h1 ?_
  · refine ⟨?_, hB.frozen _⟩
    rw [hB.cell, Nat.zero_add, Array.getElem?_eq_getElem (by omega)]; rfl
  · have hb := Blk.setCells cs'.toList 0 w cs hB
    rw [setFrom_all cs cs' hsz] at hb
    exact h _ hb (setCells_kept _ _ _ _ ⟨Below.refl _ _, fun _ _ _ => rfl⟩) (setCells_size B _ _ _)
theorem Blk.grown {w w' : World} {row : Option Nat} {B : Nat} {cs : Array Value} {t : TypeId} (h : Blk w B cs t) (hg : w.grownBy w' row) (hne : some B ≠ row) : Blk w' B cs t := by
  have hs := h.size
  unfold Blk at *; rw [hg.block B hs hne]; exact h
theorem below_grown {w0 w w' : World} {row : Option Nat} {K : Nat} (h : Below K w0 w) (hg : w.grownBy w' row) (hK : K ≤ w.heap.size) (hr : ∀ k, row = some k → K ≤ k) : Below K w0 w' :=
  h.trans ⟨hg.os, hg.tape, hg.output, hg.size, fun k hk => hg.block k (by omega) fun e => by have := hr k e.symm; omega⟩
theorem info_since : (Try.prog.info? 78).map (fun i => (i.zero, i.size, i.bytes)) = some (some (.agg #[.int .u64 0, .int .u64 0]), 2, 16) := by kernel_rfl
def flatw : List WN → List Value
  | [] => []
  | v :: l => .int .u64 v.at_ :: .int .u64 v.p :: flatw l
theorem flatw_app (a b : List WN) : flatw (a ++ b) = flatw a ++ flatw b := by induction a with
  | nil => rfl
  | cons s a ih => simp [flatw, ih]
theorem flatw_get (a : List WN) (i : Nat) (v : WN) (h : a[i]? = some v) : (flatw a)[i * 2]? = some (.int .u64 v.at_) ∧ (flatw a)[i * 2 + 1]? = some (.int .u64 v.p) := by
  induction a generalizing i with
  | nil => simp at h
  | cons s a ih =>
    cases i with
    | zero => simp at h; subst h; simp [flatw]
    | succ i =>
      have := ih i (by simpa using h)
      rw [show (i + 1) * 2 = i * 2 + 1 + 1 by omega]
      simpa [flatw] using this
/-- The slice v holds just these wakes. -/
def HoldW (w : World) (base : Nat) (v : Value) (ws : List WN) : Prop := w.ownsRow base 78 2 v ws.length (flatw ws)
/-- What the walk reads of it. -/
theorem HoldW.read {w : World} {base : Nat} {v : Value} {ws : List WN} (h : HoldW w base v ws) (hne : 0 < ws.length) : ∃ g cap, v = .slice (some ⟨g, 0, none⟩) ws.length cap ∧ base ≤ g ∧ g < w.heap.size ∧ ws.length ≤ cap ∧ cap ≤ maxLen ∧ ∀ i v, ws[i]? = some v → w.cell? ⟨g, i * 2, none⟩ = some (.int .u64 v.at_) ∧ w.cell? ⟨g, i * 2 + 1, none⟩ = some (.int .u64 v.p) := by
  rcases h.2 with ⟨hv, hn⟩ | ⟨g, cap, cur, hv, hb, hg, hl, hm, _⟩
  · omega
  · refine ⟨g, cap, hv, hb, (Array.getElem?_eq_some_iff.1 hg).1, hl, hm, fun i u hi => ?_⟩
    subst hv
    have hlt : i < ws.length := (List.getElem?_eq_some_iff.1 hi).1
    have hc := World.ownsRow.cellAt h
    obtain ⟨f0, f1⟩ := flatw_get ws i u hi
    exact ⟨(hc _ (by omega)).trans f0, (hc _ (by omega)).trans f1⟩
theorem HoldW.at_ {w : World} {base g cap : Nat} {ws : List WN} (h : HoldW w base (.slice (some ⟨g, 0, none⟩) ws.length cap) ws) {i : Nat} {v : WN} (hi : ws[i]? = some v) : w.cell? ⟨g, i * 2, none⟩ = some (.int .u64 v.at_) ∧ w.cell? ⟨g, i * 2 + 1, none⟩ = some (.int .u64 v.p) := by
  have hlt : i < ws.length := (List.getElem?_eq_some_iff.1 hi).1
  have hc := World.ownsRow.cellAt h
  obtain ⟨f0, f1⟩ := flatw_get ws i v hi
  exact ⟨(hc _ (by omega)).trans f0, (hc _ (by omega)).trans f1⟩
theorem HoldW.below {w w' : World} {base : Nat} {v : Value} {ws : List WN} (h : HoldW w base v ws) (hb : Below w.heap.size w w') : HoldW w' base v ws :=
  World.ownsRow.kept (row := none) h ⟨hb.os, hb.tape, hb.output, hb.size, fun k hk _ => hb.block k hk⟩ (by
    cases ho : v.ownBlock with
    | none => exact .inl rfl
    | some k => right; simp)
theorem HoldW.kept {w w' : World} {base L : Nat} {v : Value} {ws : List WN} (h : HoldW w base v ws) (hk : KeptBut L w w') (hL : L < base) : HoldW w' base v ws :=
  World.ownsRow.kept (row := some L) h ⟨hk.1.os, hk.1.tape, hk.1.output, hk.1.size, fun k hlt hne => hk.2 k hlt fun e => hne (by rw [e])⟩ (by
    cases ho : v.ownBlock with
    | none => exact .inl rfl
    | some k => have := (World.ownsRow.lt h k ho).1; right; intro e; simp at e; omega)
theorem HoldW.ne {w : World} {base B : Nat} {v : Value} {ws : List WN} (h : HoldW w base v ws) (hB : B < base) : some B ≠ v.ownBlock := by
  intro e; have := (World.ownsRow.lt h B e.symm).1; omega
theorem one2 (a b : Int) : ∀ u ∈ ([.int .u64 a, .int .u64 b] : List Value), u.oneCell' = true := by
  intro u hu; simp at hu; rcases hu with rfl | rfl <;> rfl
theorem info_parts {P : Program} {e : TypeId} {z : Value} {size bytes : Nat} (h : (P.info? e).map (fun i => (i.zero, i.size, i.bytes)) = some (some z, size, bytes)) : ∃ i, P.info? e = some i ∧ i.zero = some z ∧ i.size = size ∧ i.bytes = bytes := by
  cases hi : P.info? e with
  | none => rw [hi] at h; simp at h
  | some i => rw [hi] at h; simp at h; exact ⟨i, rfl, h.1, h.2.1, h.2.2⟩
/-- What holds of a limit behind its acts: its run, from when it fits, its wakes. -/
def UBI (m d n now total : Int) (r : RN) (t : Int) (ws : List WN) : Prop := Kept m d n now r ∧ Under m d n now ws r ∧ t = r.reach (total * 65536) ∧ ∀ v ∈ ws, (0 ≤ v.at_ ∧ v.at_ ≤ now) ∧ (0 ≤ v.p ∧ v.p ≤ total)
section
variable {m d n now total t : Int} {r : RN} {ws : List WN}
theorem UBI.start (h : Lin m d n) (hc : CIn m d n) : UBI m d n 0 0 (RN.start m d n 0 (0 * 65536)) ((RN.start m d n 0 (0 * 65536)).reach (0 * 65536)) [⟨0, 0⟩] := by
  have hf : FIn 0 (0 * 65536) := by unfold FIn; omega
  refine ⟨Kept.one h hc hf, Under.one h hc (v := ⟨0, 0⟩) hf, rfl, ?_⟩
  intro v hv
  simp at hv; subst hv; simp
theorem UBI.later {x : Int} (h : UBI m d n now total r t ws) (hx : now ≤ x) : UBI m d n x total r t ws :=
  ⟨h.1.later hx, h.2.1.later hx, h.2.2.1, fun v hv => by have := h.2.2.2 v hv; omega⟩
theorem UBI.wake (h : UBI m d n now total r t ws) (hL : Lin m d n) (hc : CIn m d n) (hf : FIn now (total * 65536)) (h0 : 0 ≤ now) (h1 : 0 ≤ total) :
    UBI m d n now total (RN.meet r (RN.start m d n now (total * 65536))) ((RN.meet r (RN.start m d n now (total * 65536))).reach (total * 65536)) (ws ++ [⟨now, total⟩]) := by
  refine ⟨h.1.meet hL hc hf, Under.meet hL hc (v := ⟨now, total⟩) hf h.1 h.2.1, rfl, ?_⟩
  intro v hv
  rcases List.mem_append.1 hv with hv | hv
  · exact h.2.2.2 v hv
  · simp at hv; subst hv; simp; omega
theorem UBI.fit {T : Int} (h : UBI m d n now total r t ws) (hT : total ≤ T) : UBI m d n now T r (r.reach (T * 65536)) ws :=
  ⟨h.1, h.2.1, rfl, fun v hv => by have := h.2.2.2 v hv; omega⟩
theorem UBI.bound {l L s : Int} (h : UBI m d n now total r t ws) (hL : Lin m d n) (h1 : 0 ≤ total) (h2 : total + l ≤ 18446744073709551615) (h0 : 0 ≤ now ∧ now < 9223372036854775807) (hf : t ≤ now) (hl : l ≤ L) {v : WN} (hv : v ∈ ws) (hs : sk m d n (now - v.at_) = s) :
    total + l - v.p ≤ min (s / 65536 + max L 0) 18446744073709551615 := by
  have hk : sk m d n (now - v.at_) = sv m d n (now - v.at_) := by unfold sk; rw [if_neg (by rcases hL with h | h <;> omega)]
  have := Under.fits h.1.1 h.2.1 (T := total) (t := now) h1 (Int.le_refl _) h0 (by rw [← h.2.2.1]; exact hf) v hv
  have hb := h.2.2.2 v hv
  rw [← hk, hs] at this
  omega
theorem capped_has (hL : Lin m d n) : CH.capped ⟨true, r, t⟩ m d n now total = ⟨true, RN.meet r (RN.start m d n now (total * 65536)), (RN.meet r (RN.start m d n now (total * 65536))).reach (total * 65536)⟩ := by
  unfold CH.capped; rw [if_neg (by rcases hL with h | h <;> omega)]; rfl
theorem capped_first (hL : Lin m d n) : CH.capped CH.zero m d n 0 0 = ⟨true, RN.start m d n 0 (0 * 65536), (RN.start m d n 0 (0 * 65536)).reach (0 * 65536)⟩ := by
  unfold CH.capped; rw [if_neg (by rcases hL with h | h <;> omega)]; rfl
end
end Go.Proofs.Ytnkpoelljfbefaa
