/-
  Captures: slices of the reference's frames; the law's ref and same. Conditions: what the slices hold is known.
-/
import Derived.Test.YtljpiofpfankoaaCpH
namespace Go.Proofs.Ytljpiofpfankoaa
open Go.RowKit Go.Sort
set_option linter.unusedVariables false
set_option linter.unusedSimpArgs false
/-- A slice of the reference's frames that the program has made itself. -/
def HoldRf (w : World) (base : Nat) (v : Value) (l : List FM) : Prop := w.ownsRow base 100 2 v l.length (frVs l)
theorem HoldRf.nil (w : World) (base : Nat) : HoldRf w base (.slice none 0 0) [] := ⟨rfl, .inl ⟨rfl, rfl⟩⟩
theorem HoldRf.below {w w' : World} {base : Nat} {v : Value} {l : List FM} (h : HoldRf w base v l) (hb : Below w.heap.size w w') : HoldRf w' base v l := by
  obtain ⟨h1, h2⟩ := h
  refine ⟨h1, ?_⟩
  rcases h2 with h2 | ⟨g, cap, cur, e, hg, hh, r⟩
  · exact .inl h2
  · exact .inr ⟨g, cap, cur, e, hg, (hb.block g (Array.getElem?_eq_some_iff.1 hh).1).trans hh, r⟩
theorem HoldRf.own_ge {w : World} {base : Nat} {v : Value} {l : List FM} (h : HoldRf w base v l) : ∀ k, v.ownBlock = some k → base ≤ k ∧ k < w.heap.size := by
  intro k hk
  rcases h.2 with ⟨e, _⟩ | ⟨g, cap, cur, e, hg, hh, r⟩
  · rw [e] at hk; cases hk
  · rw [e] at hk; cases hk; exact ⟨hg, (Array.getElem?_eq_some_iff.1 hh).1⟩
theorem HoldRf.slice {w : World} {base : Nat} {v : Value} {l : List FM} (h : HoldRf w base v l) : ∃ a cap, v = .slice a l.length cap := by
  rcases h.2 with ⟨e, h0⟩ | ⟨g, cap, cur, e, _⟩
  · exact ⟨none, 0, by rw [e, h0]⟩
  · exact ⟨_, cap, e⟩
theorem rf_info : (Try.prog.info? 100).map (fun i => (i.zero, i.size, i.bytes)) = some (some (.agg #[.int .u64 0, .string ⟨#[]⟩]), 2, 24) := by kernel_rfl
open Go.Lib in
theorem wpList_append_rf {w : World} {ops : Array Oper} {rest : List Oper} {o : Oper} {a : Act} {Q : Exit → Act → World → Prop} (hgd : o.guard = none) (sl x : Operand)
    (ho : o.op = .call { callee := .builtin .append, args := #[sl, x], argTypes := #[29, 29] })
    (base : Nat) (v : Value) (s : List FM) (f : FM) (B : Nat) (hs : a.eval sl = v) (hx : a.eval x = .slice (some ⟨B, 0, none⟩) 1 1) (h : HoldRf w base v s) (hB : Blk w B #[.int .u64 f.t, SV f.d] 100) (hsz : s.length ≤ 100000) (hbase : base ≤ w.heap.size)
    (hk : ∀ v' w', HoldRf w' base v' (s ++ [f]) → Below base w w' → (∀ b c t, b < base → Blk w b c t → Blk w' b c t) → (∀ b c t, some b ≠ v.ownBlock → Blk w b c t → Blk w' b c t) → wpList Try.prog ops Q rest (a.put o.dst v') w') : wpList Try.prog ops Q (o :: rest) a w := by
  refine wpList_plain hgd fun K hK => ?_
  obtain ⟨i, hi, e⟩ := Option.map_eq_some_iff.1 rf_info
  simp only [Prod.mk.injEq] at e
  obtain ⟨v', w', hr, h2, h3, _⟩ := run_append_own_at (P := Try.prog) w base 29 o.type 100 i (.agg #[.int .u64 0, .string ⟨#[]⟩]) 2 24 Try.underlying29 hi e.1 e.2.1 e.2.2 rfl (by omega) v s.length (frVs s) h ⟨B, 0, none⟩ 1 1 [.int .u64 f.t, SV f.d] rfl (fun j u hj => by
    rw [Addr.add_mid, hB.cell, Nat.zero_add]; simpa using hj) (by intro u hu; simp at hu; rcases hu with rfl | rfl <;> rfl) (by unfold maxLen; omega) (by omega) hbase
  unfold Oper.wp execOp
  simp only [ho, resolve, invoke, builtin, Sem.run_bind, Sem.run_pure, Result.andThen_ok, List.map_toArray, List.map_cons, List.map_nil, hs, hx, hr]
  refine hK _ _ (hk v' w' ?_ ?_ ?_ ?_)
  · unfold HoldRf; rw [List.length_append, frVs_app]; exact h2
  · exact below_grown (Below.refl _ _) h3 hbase (fun k hk => (h.own_ge k hk).1)
  · intro b c t hb hbb; exact Blk.grown hbb h3 (fun e => by have := (h.own_ge b e.symm).1; omega)
  · intro b c t hne hbb; exact Blk.grown hbb h3 hne
theorem frVs_get : ∀ (L : List FM) (i : Nat) (f : FM), L[i]? = some f → (frVs L)[i * 2]? = some (.int .u64 f.t) ∧ (frVs L)[i * 2 + 1]? = some (SV f.d)
  | [], i, f, h => by simp at h
  | g :: r, 0, f, h => by simp at h; subst h; exact ⟨rfl, rfl⟩
  | g :: r, i + 1, f, h => by
    have ih := frVs_get r i f (by simpa using h)
    rw [show (i + 1) * 2 = i * 2 + 2 by omega, show i * 2 + 2 + 1 = i * 2 + 1 + 2 by omega]
    exact ih
theorem own_at {w : World} {base : Nat} {e : TypeId} {v : Value} {L : List FM} (h : w.ownsRow base e 2 v L.length (frVs L)) : ∃ a cap g, v = .slice a L.length cap ∧ L.length ≤ cap ∧ (L ≠ [] → a = some ⟨g, 0, none⟩) ∧ (L ≠ [] → g < w.heap.size) ∧ FmAt w g 0 L := by
  obtain ⟨h1, h2⟩ := h
  rcases h2 with ⟨rfl, h0⟩ | ⟨g, cap, cur, rfl, hg, hh, hc, hm, hs, ht⟩
  · have : L = [] := List.length_eq_zero_iff.1 h0
    subst this
    exact ⟨none, 0, 0, rfl, by simp, fun h => absurd rfl h, fun h => absurd rfl h, fun i f hf => by simp at hf⟩
  · refine ⟨_, cap, g, rfl, hc, fun _ => rfl, fun _ => (Array.getElem?_eq_some_iff.1 hh).1, fun i f hf => ?_⟩
    have hi := (List.getElem?_eq_some_iff.1 hf).1
    obtain ⟨q0, q1⟩ := frVs_get L i f hf
    have hcell : ∀ o, w.cell? ⟨g, o, none⟩ = cur[o]? := fun o => by simp [World.cell?, hh]
    rw [hcell, hcell, Nat.zero_add, ← Array.getElem?_toList, ← Array.getElem?_toList]
    rw [← ht] at q0 q1
    rw [List.getElem?_take_of_lt (by omega)] at q0 q1
    exact ⟨q0, q1⟩
set_option maxRecDepth 100000 in
set_option maxHeartbeats 4000000 in
theorem capRef (L : List FM) (a : Option Addr) (b off cap : Nat) (w : World) (ha : L ≠ [] → a = some ⟨b, off, none⟩) (hb : L ≠ [] → b < w.heap.size) (hL : FmAt w b off L) (hn : L.length ≤ 2000) (hcap : L.length ≤ cap) :
    Calls Try.prog 16 #[.slice a L.length cap] w fun x w' => ∃ v, x = .returned v ∧ HoldRf w' w.heap.size v L ∧ Below w.heap.size w w' := by
  go_enter Try.func16, Try.ntmps16
  go_wp2
  go_loopw [3, 8] (fun o i wr => ∃ (k : Nat), k ≤ L.length ∧ i = .int .i64 k ∧ HoldRf wr w.heap.size o (L.take k) ∧ Below w.heap.size w wr) (fun _ i _ => L.length - (intOf i).toNat)
  case atStart => exact ⟨0, Nat.zero_le _, rfl, HoldRf.nil _ _, by (repeat' (first | (with_reducible (first | exact Below.refl _ _ | assumption | refine below_drewN ?_ _ | refine Below.drew ?_ | refine Below.alloc ?_ ?_ _ | refine Below.setCell ?_ ?_ _)) | go_size))⟩
  case round =>
    obtain ⟨k, hk, rfl, H0, g0⟩ := hrel
    have hl0 := g0.size
    by_cases hlt : k < L.length
    · obtain ⟨f, hf⟩ : ∃ f, L[k]? = some f := ⟨_, List.getElem?_eq_getElem hlt⟩
      have hne : L ≠ [] := by intro e; rw [e] at hlt; simp at hlt
      have hbw := hb hne
      obtain rfl := ha hne
      obtain ⟨q0, q1⟩ := (hL.below g0 hbw) k f hf
      have hki : (k : Int) < (L.length : Int) := by omega
      have hlb : (k : Int) ≤ 2000 := by omega
      have htk : L.take (k + 1) = L.take k ++ [f] := by
        obtain ⟨hk', e⟩ := List.getElem?_eq_some_iff.1 hf
        rw [List.take_succ_eq_append_getElem hk', e]
      have hlk : (L.take k).length = k := by rw [List.length_take]; omega
      go_wp2_with (refine wpList_append_rf rfl (.tmp 12) (.tmp 18) rfl w.heap.size u3 (L.take k) f (wr.heap.size + 1) (by rfl) (by rfl) (H0.below (by (repeat' (first | (with_reducible (first | exact Below.refl _ _ | assumption | refine below_drewN ?_ _ | refine Below.drew ?_ | refine Below.alloc ?_ ?_ _ | refine Below.setCell ?_ ?_ _)) | go_size)))) (by (repeat' (first | (with_reducible (first | assumption | exact Blk.alloc_new _ _ _ (by first | rfl | (simp; done) | omega) | apply Blk.drewN | apply Blk.drew | apply Blk.alloc_old | apply Blk.set_same | apply Blk.set_other)) | (show (_ : Nat) ≠ _; first | omega | (simp; done) | (simp; omega)) | ((simp only [List.setIfInBounds_toArray, List.set_cons_succ, List.set_cons_zero]); (with_reducible exact rfl)) | (with_reducible exact rfl) | (show (_ : Array Value) = _; exact rfl)))) (by omega) (by simp; omega) ?_; intro v' w2 H2 hb2 hlow hoth; have g2 : Below w.heap.size w w2 := Below.trans (by (repeat' (first | (with_reducible (first | exact Below.refl _ _ | assumption | refine below_drewN ?_ _ | refine Below.drew ?_ | refine Below.alloc ?_ ?_ _ | refine Below.setCell ?_ ?_ _)) | go_size))) hb2; have hz2 := g2.size)
      go_roundw
      case rel => exact ⟨k + 1, by omega, by go_num, by rw [htk]; exact H2, by (repeat' (first | (with_reducible (first | exact Below.refl _ _ | assumption | refine below_drewN ?_ _ | refine Below.drew ?_ | refine Below.alloc ?_ ?_ _ | refine Below.setCell ?_ ?_ _)) | go_size))⟩
      case measure => simp [intOf]; omega
    · obtain rfl : k = L.length := by omega
      rw [List.take_length] at H0
      go_wp2
      go_ret
      exact ⟨_, rfl, H0, by (repeat' (first | (with_reducible (first | exact Below.refl _ _ | assumption | refine below_drewN ?_ _ | refine Below.drew ?_ | refine Below.alloc ?_ ?_ _ | refine Below.setCell ?_ ?_ _)) | go_size))⟩
end Go.Proofs.Ytljpiofpfankoaa
