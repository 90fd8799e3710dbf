/-
  Slices that the program has made itself, in general; appending to them. Conditions: what they hold is known.
-/
import Derived.Test.YtljpiofpfankoaaFlN
import Derived.Deep.OwnRows
import Derived.Lib.AppendStr
namespace Go.Proofs.Ytljpiofpfankoaa
open Go.RowKit Go.Sort
set_option linter.unusedVariables false
set_option linter.unusedSimpArgs false
theorem Blk.grown {w w' : World} {row : Option Nat} {B : Nat} {cs : Array Value} {t : TypeId} (h : Blk w B cs t) (hg : w.grownBy w' row) (hne : some B ≠ row) : Blk w' B cs t :=
  (hg.block B h.size hne).trans h
theorem below_grown {w0 w w' : World} {row : Option Nat} {K : Nat} (h : Below K w0 w) (hg : w.grownBy w' row) (hK : K ≤ w.heap.size) (hr : ∀ k, row = some k → K ≤ k) : Below K w0 w' :=
  h.trans ⟨hg.os, hg.tape, hg.output, hg.size, fun k hk => hg.block k (by omega) (fun e => by have := hr k e.symm; omega)⟩
/-- A slice that the program has made itself: of things that have n cells each. -/
def HoldG {α : Type} (e : TypeId) (n : Nat) (enc : α → List Value) (w : World) (base : Nat) (v : Value) (l : List α) : Prop := w.ownsRow base e n v l.length (l.flatMap enc)
section
variable {α : Type} {e : TypeId} {n : Nat} {enc : α → List Value}
theorem HoldG.nil (w : World) (base : Nat) : HoldG e n enc w base (.slice none 0 0) [] := ⟨by simp, .inl ⟨rfl, rfl⟩⟩
theorem HoldG.below {w w' : World} {base : Nat} {v : Value} {l : List α} (h : HoldG e n enc w base v l) (hb : Below w.heap.size w w') : HoldG e n enc w' base v l := by
  obtain ⟨h1, h2⟩ := h
  refine ⟨h1, ?_⟩
  rcases h2 with h2 | ⟨g, cap, cur, e, hg, hh, r⟩
  · exact .inl h2
  · exact .inr ⟨g, cap, cur, e, hg, (hb.block g (Array.getElem?_eq_some_iff.1 hh).1).trans hh, r⟩
theorem HoldG.own_ge {w : World} {base : Nat} {v : Value} {l : List α} (h : HoldG e n enc w base v l) : ∀ k, v.ownBlock = some k → base ≤ k ∧ k < w.heap.size := by
  intro k hk
  rcases h.2 with ⟨e, _⟩ | ⟨g, cap, cur, e, hg, hh, r⟩
  · rw [e] at hk; cases hk
  · rw [e] at hk; cases hk; exact ⟨hg, (Array.getElem?_eq_some_iff.1 hh).1⟩
theorem HoldG.slice {w : World} {base : Nat} {v : Value} {l : List α} (h : HoldG e n enc w base v l) : ∃ a cap, v = .slice a l.length cap := by
  rcases h.2 with ⟨e, h0⟩ | ⟨g, cap, cur, e, _⟩
  · exact ⟨none, 0, by rw [e, h0]⟩
  · exact ⟨_, cap, e⟩
theorem HoldG.ne_blk {w : World} {base : Nat} {v : Value} {l : List α} {B : Nat} {cs : Array Value} {t : TypeId} (h : HoldG e n enc w base v l) (hB : Blk w B cs t) (ht : t ≠ e) : some B ≠ v.ownBlock := by
  intro q
  rcases h.2 with ⟨hv, _⟩ | ⟨g, cap, cur, hv, _, hh, _⟩
  · rw [hv] at q; cases q
  · rw [hv] at q
    cases q
    unfold Blk at hB
    rw [hh] at hB
    cases hB
    exact ht rfl
theorem HoldG.base_le {w : World} {b b' : Nat} {v : Value} {l : List α} (h : HoldG e n enc w b v l) (hb : b' ≤ b) : HoldG e n enc w b' v l := by
  refine ⟨h.1, ?_⟩
  rcases h.2 with h2 | ⟨g, cap, cur, e, hg, r⟩
  · exact .inl h2
  · exact .inr ⟨g, cap, cur, e, by omega, r⟩
/-- The things lie at this place. -/
def AtG (n : Nat) (enc : α → List Value) (w : World) (b off : Nat) (L : List α) : Prop := ∀ i x, L[i]? = some x → ∀ j u, (enc x)[j]? = some u → w.cell? ⟨b, off + i * n + j, none⟩ = some u
theorem AtG.below {w w' : World} {b off K : Nat} {L : List α} (h : AtG n enc w b off L) (hb : Below K w w') (hB : b < K) : AtG n enc w' b off L := fun i x hi j u hj =>
  (hb.cell (p := ⟨b, off + i * n + j, none⟩) hB).trans (h i x hi j u hj)
theorem flat_len (hn : ∀ x, (enc x).length = n) : ∀ (L : List α), (L.flatMap enc).length = L.length * n
  | [] => by simp
  | x :: r => by rw [List.flatMap_cons, List.length_append, hn, flat_len hn r, List.length_cons, Nat.add_mul]; omega
theorem flat_get (hn : ∀ x, (enc x).length = n) : ∀ (L : List α) (i : Nat) (x : α), L[i]? = some x → ∀ j u, (enc x)[j]? = some u → (L.flatMap enc)[i * n + j]? = some u
  | [], i, x, h => by simp at h
  | y :: r, 0, x, h => by
    intro j u hj
    simp at h; subst h
    have hj' := (List.getElem?_eq_some_iff.1 hj).1
    rw [List.flatMap_cons, Nat.zero_mul, Nat.zero_add, List.getElem?_append_left hj']; exact hj
  | y :: r, i + 1, x, h => by
    intro j u hj
    have ih := flat_get hn r i x (by simpa using h) j u hj
    rw [List.flatMap_cons, List.getElem?_append_right (by rw [hn, Nat.add_mul]; omega), hn, show (i + 1) * n + j - n = i * n + j by rw [Nat.add_mul]; omega]
    exact ih
theorem HoldG.at {w : World} {base : Nat} {v : Value} {L : List α} (h : HoldG e n enc w base v L) (hn : ∀ x, (enc x).length = n) : ∃ a cap g, v = .slice a L.length cap ∧ L.length ≤ cap ∧ (L ≠ [] → a = some ⟨g, 0, none⟩) ∧ (L ≠ [] → g < w.heap.size) ∧ AtG n enc w g 0 L := by
  obtain ⟨h1, h2⟩ := h
  rcases h2 with ⟨rfl, h0⟩ | ⟨g, cap, cur, rfl, hg, hh, hc, hm, hs, ht⟩
  · have : L = [] := List.length_eq_zero_iff.1 h0
    subst this
    exact ⟨none, 0, 0, rfl, by simp, fun h => absurd rfl h, fun h => absurd rfl h, fun i f hf => by simp at hf⟩
  · refine ⟨_, cap, g, rfl, hc, fun _ => rfl, fun _ => (Array.getElem?_eq_some_iff.1 hh).1, fun i x hx j u hj => ?_⟩
    have hi := (List.getElem?_eq_some_iff.1 hx).1
    have hj' := (List.getElem?_eq_some_iff.1 hj).1
    rw [hn] at hj'
    have q := flat_get hn L i x hx j u hj
    have hcell : ∀ o, w.cell? ⟨g, o, none⟩ = cur[o]? := fun o => by simp [World.cell?, hh]
    rw [hcell, Nat.zero_add, ← Array.getElem?_toList]
    rw [← ht] at q
    have hlt : i * n + j < L.length * n := by
      have : (i + 1) * n ≤ L.length * n := Nat.mul_le_mul_right n hi
      rw [Nat.add_mul] at this; omega
    rw [List.getElem?_take_of_lt hlt] at q
    exact q
end
open Go.Lib in
/-- append(l, x) of one thing, which a block of its own holds. -/
theorem wpList_append_g {α : Type} {e : TypeId} {n : Nat} {enc : α → List Value} {st : TypeId} {by_ : Nat} {z : Value} (hu : Try.prog.underlying st = some (.slice e)) (hinf : (Try.prog.info? e).map (fun i => (i.zero, i.size, i.bytes)) = some (some z, n, by_)) (hz : z.cells.size = n) (hn : ∀ x, (enc x).length = n) (h1 : ∀ x, ∀ u ∈ enc x, u.oneCell' = true) (hn0 : 0 < n) (hb9 : by_ ≤ 1000)
    {w : World} {ops : Array Oper} {rest : List Oper} {o : Oper} {a : Act} {Q : Exit → Act → World → Prop} (hgd : o.guard = none) (sl x : Operand)
    (ho : o.op = .call { callee := .builtin .append, args := #[sl, x], argTypes := #[st, st] })
    (base : Nat) (v : Value) (s : List α) (f : α) (B : Nat) (cs : Array Value) (hcs : cs.toList = enc f) (hs : a.eval sl = v) (hx : a.eval x = .slice (some ⟨B, 0, none⟩) 1 1) (h : HoldG e n enc w base v s) (hB : Blk w B cs e) (hsz : s.length ≤ 1000000) (hbase : base ≤ w.heap.size)
    (hk : ∀ v' w', HoldG e n enc w' base v' (s ++ [f]) → Below base w w' → w.heap.size ≤ w'.heap.size → (∀ b c t, some b ≠ v.ownBlock → Blk w b c t → Blk w' b c t) → wpList Try.prog ops Q rest (a.put o.dst v') w') : wpList Try.prog ops Q (o :: rest) a w := by
  refine wpList_plain hgd fun K hK => ?_
  obtain ⟨i, hi, q⟩ := Option.map_eq_some_iff.1 hinf
  simp only [Prod.mk.injEq] at q
  obtain ⟨v', w', hr, h2, h3, _⟩ := run_append_own_at (P := Try.prog) w base st o.type e i z n by_ hu hi q.1 q.2.1 q.2.2 hz hn0 v s.length (s.flatMap enc) h ⟨B, 0, none⟩ 1 1 (enc f) (by rw [hn, Nat.one_mul]) (fun j u hj => by
    rw [Addr.add_mid, hB.cell, Nat.zero_add, ← Array.getElem?_toList, hcs]; exact hj) (h1 f) (by unfold maxLen; omega) (by have : (s.length + 1) * by_ ≤ (s.length + 1) * 1000 := Nat.mul_le_mul_left _ hb9; omega) hbase
  unfold Oper.wp execOp
  simp only [ho, resolve, invoke, builtin, Sem.run_bind, Sem.run_pure, Result.andThen_ok, List.map_toArray, List.map_cons, List.map_nil, hs, hx, hr]
  refine hK _ _ (hk v' w' ?_ ?_ h3.size ?_)
  · unfold HoldG; rw [List.length_append, List.flatMap_append]; simpa using h2
  · exact below_grown (Below.refl _ _) h3 hbase (fun k hk => (h.own_ge k hk).1)
  · intro b c t hne hbb; exact Blk.grown hbb h3 hne
end Go.Proofs.Ytljpiofpfankoaa
