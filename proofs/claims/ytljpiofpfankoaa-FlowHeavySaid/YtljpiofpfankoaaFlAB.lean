/-
  Flows: packets that came in; adding, on both sides; looking up. Conditions: the table's map and the reference's list are known.
-/
import Derived.Test.YtljpiofpfankoaaFlAA
import Derived.Test.YtljpiofpfankoaaFlP
namespace Go.Proofs.Ytljpiofpfankoaa
open Go.RowKit Go.Sort
set_option linter.unusedVariables false
set_option linter.unusedSimpArgs false
section
open Go.ChangeShapes Go.WideShapes Go.ChangeAt Go.RowKit
set_option linter.unusedVariables false
/-- Structs that came in: each one's cells. -/
def Rows_seen45 (w : World) (a : Option Addr) (len : Nat) : Prop :=
  len = 0 ∨ ∃ b off, a = some ⟨b, off, none⟩ ∧ b < w.heap.size ∧ ∀ i, i < len → ∃ (x0 : Int) (x1 : Int) (x2 : Int) (x3 : Int) (x4 : Int), (0 ≤ x0 ∧ x0 ≤ 65535) ∧ (0 ≤ x1 ∧ x1 ≤ 65535) ∧ (0 ≤ x2 ∧ x2 ≤ 65535) ∧ (0 ≤ x3 ∧ x3 ≤ 65535) ∧ (-9223372036854775808 ≤ x4 ∧ x4 ≤ 9223372036854775807) ∧ w.cell? ⟨b, off + i * 5, none⟩ = some (.int .u16 x0) ∧ w.cell? ⟨b, off + i * 5 + 1, none⟩ = some (.int .u16 x1) ∧ w.cell? ⟨b, off + i * 5 + 2, none⟩ = some (.int .u16 x2) ∧ w.cell? ⟨b, off + i * 5 + 3, none⟩ = some (.int .u16 x3) ∧ w.cell? ⟨b, off + i * 5 + 4, none⟩ = some (.int .i64 x4)
theorem seen45_cell_lt {w : World} {b o : Nat} {v : Value} (h : w.cell? ⟨b, o, none⟩ = some v) : b < w.heap.size := by
  by_cases hb : b < w.heap.size
  · exact hb
  · simp [World.cell?, Array.getElem?_eq_none (show w.heap.size ≤ b by omega)] at h
theorem seen45_cell_add {w : World} {b off : Nat} {n j : Nat} {v : Option Value} (h : w.cell? (((⟨b, off, none⟩ : Addr).add n).add j) = v) : w.cell? ⟨b, off + n + j, none⟩ = v := by
  rw [Go.Deep.add_add] at h
  unfold Addr.add at h
  by_cases h0 : n + j = 0
  · have e1 : n = 0 := by omega
    have e2 : j = 0 := by omega
    subst e1 e2; simpa using h
  · rw [if_neg h0] at h
    rw [show off + n + j = off + (n + j) by omega]; exact h
theorem open_seen45s {H : Type} {w : World} {base : Nat} {spare : Nat → Bool} {held : Bool} {enc : TypeId × Value → H} {s : Option Addr} {len cap fuel : Nat} {x : DataW H × List MemPlace} (h : DataW.trod enc Try.prog w base spare held fuel 75 [.slice s len cap] = some x) : Rows_seen45 w s len ∧ len ≤ maxLen := by
  rcases Go.Deep.open_slice Try.underlying75 h with ⟨hcs, _⟩ | ⟨a, len', cap', m, n, D, Pl, hcs, hb, hl, hm, hmm, hx, hi⟩
  · simp at hcs
    obtain ⟨rfl, rfl, rfl⟩ := hcs
    exact ⟨.inl rfl, by unfold maxLen; omega⟩
  · simp at hcs
    obtain ⟨rfl, rfl, rfl⟩ := hcs
    refine ⟨?_, by omega⟩
    by_cases h0 : len = 0
    · exact .inl h0
    right
    have hlm : len ≤ m := by rw [hmm]; split <;> omega
    have kN : Try.prog.cellsOf 80 = 5 := by kernel_rfl
    rw [kN] at hi
    have hall : ∀ i, i < len → ∃ (x0 : Int) (x1 : Int) (x2 : Int) (x3 : Int) (x4 : Int), (0 ≤ x0 ∧ x0 ≤ 65535) ∧ (0 ≤ x1 ∧ x1 ≤ 65535) ∧ (0 ≤ x2 ∧ x2 ≤ 65535) ∧ (0 ≤ x3 ∧ x3 ≤ 65535) ∧ (-9223372036854775808 ≤ x4 ∧ x4 ≤ 9223372036854775807) ∧ ∀ j, j < 5 → w.cell? ((a.add (i * 5)).add j) = ([.int .u16 x0, .int .u16 x1, .int .u16 x2, .int .u16 x3, .int .i64 x4] : List Value)[j]? := by
      intro i hil
      obtain ⟨cs', hc, ht⟩ := hi i (by omega)
      obtain ⟨_, hlen, hat⟩ := World.cells?_some hc
      obtain ⟨c0, c1, c2, c3, c4, rfl⟩ := seen45list5 hlen
      obtain ⟨x0, x1, x2, x3, x4, e, n0, n1, n2, n3, n4⟩ := cells_seen45 ht
      rw [e] at hat
      exact ⟨x0, x1, x2, x3, x4, n0, n1, n2, n3, n4, hat⟩
    obtain ⟨b, off, spot⟩ := a
    obtain ⟨_, _, _, _, _, _, _, _, _, _, hc0⟩ := hall 0 (by omega)
    have hspot : spot = none := by
      have := hc0 0 (by omega)
      simpa [Addr.add] using World.cell?_spot (by simpa [Addr.add] using this)
    subst hspot
    refine ⟨b, off, rfl, seen45_cell_lt (by have := seen45_cell_add (hc0 0 (by omega)); simpa using this), fun i hil => ?_⟩
    obtain ⟨x0, x1, x2, x3, x4, n0, n1, n2, n3, n4, hc⟩ := hall i hil
    exact ⟨x0, x1, x2, x3, x4, n0, n1, n2, n3, n4, seen45_cell_add (hc 0 (by omega)), seen45_cell_add (hc 1 (by omega)), seen45_cell_add (hc 2 (by omega)), seen45_cell_add (hc 3 (by omega)), seen45_cell_add (hc 4 (by omega))⟩
theorem slice_cap {t e : TypeId} {H : Type} {w : World} {base : Nat} {spare : Nat → Bool} {held : Bool} {enc : TypeId × Value → H} {s : Option Addr} {len cap fuel : Nat} {x : DataW H × List MemPlace} (ht : Try.prog.underlying t = some (.slice e)) (h : DataW.trod enc Try.prog w base spare held fuel t [.slice s len cap] = some x) : len ≤ cap := by
  rcases Go.Deep.open_slice ht h with ⟨hcs, _⟩ | ⟨a, len', cap', m, n, D, Pl, hcs, hb, hl, hm, hmm, hx, hi⟩
  · simp at hcs
    obtain ⟨rfl, rfl, rfl⟩ := hcs
    exact Nat.le_refl _
  · simp at hcs
    obtain ⟨rfl, rfl, rfl⟩ := hcs
    exact hl
end
/-- A packet of a flow. -/
structure SN45 where
  (k : K4)
  (n : Int)
def snVs (s : SN45) : List Value := [.int .u16 s.k.a, .int .u16 s.k.b, .int .u16 s.k.c, .int .u16 s.k.d, .int .i64 s.n]
theorem snVs_len (s : SN45) : (snVs s).length = 5 := rfl
def Seens (w : World) (a : Option Addr) (E : List SN45) : Prop := (E ≠ [] → ∃ b off, a = some ⟨b, off, none⟩ ∧ b < w.heap.size ∧ AtG 5 snVs w b off E) ∧ ∀ e ∈ E, -9223372036854775808 ≤ e.n ∧ e.n ≤ 9223372036854775807
theorem Seens.at {w : World} {a : Option Addr} {E : List SN45} (h : Seens w a E) : ∃ b off, (E ≠ [] → a = some ⟨b, off, none⟩) ∧ (E ≠ [] → b < w.heap.size) ∧ AtG 5 snVs w b off E := by
  by_cases h0 : E = []
  · subst h0
    exact ⟨0, 0, fun h => absurd rfl h, fun h => absurd rfl h, fun i f hf => by simp at hf⟩
  · obtain ⟨b, off, h1, h2, h3⟩ := h.1 h0
    exact ⟨b, off, fun _ => h1, fun _ => h2, h3⟩
theorem seens_of {w : World} {a : Option Addr} {len : Nat} (h : Rows_seen45 w a len) : ∃ E : List SN45, E.length = len ∧ Seens w a E := by
  rcases h with rfl | ⟨b, off, rfl, hb, hi⟩
  · exact ⟨[], rfl, fun h => absurd rfl h, fun e he => absurd he (by simp)⟩
  · have key : ∀ i, ∃ e : SN45, i < len → ((-9223372036854775808 ≤ e.n ∧ e.n ≤ 9223372036854775807) ∧ ∀ j u, (snVs e)[j]? = some u → w.cell? ⟨b, off + i * 5 + j, none⟩ = some u) := by
      intro i
      by_cases hil : i < len
      · obtain ⟨x0, x1, x2, x3, x4, b0, b1, b2, b3, b4, c0, c1, c2, c3, c4⟩ := hi i hil
        refine ⟨⟨⟨x0, x1, x2, x3⟩, x4⟩, fun _ => ⟨b4, fun j u hj => ?_⟩⟩
        have hj' := (List.getElem?_eq_some_iff.1 hj).1
        rw [snVs_len] at hj'
        match j, hj' with
        | 0, _ => cases hj; exact c0
        | 1, _ => cases hj; exact c1
        | 2, _ => cases hj; exact c2
        | 3, _ => cases hj; exact c3
        | 4, _ => cases hj; exact c4
        | j + 5, h => exact absurd h (by omega)
      · exact ⟨⟨⟨0, 0, 0, 0⟩, 0⟩, fun h => absurd h hil⟩
    let g := fun i => Classical.choose (key i)
    have hg : ∀ i, i < len → ((-9223372036854775808 ≤ (g i).n ∧ (g i).n ≤ 9223372036854775807) ∧ ∀ j u, (snVs (g i))[j]? = some u → w.cell? ⟨b, off + i * 5 + j, none⟩ = some u) := fun i => Classical.choose_spec (key i)
    clear_value g
    refine ⟨(List.range len).map g, by simp, fun hne => ⟨b, off, rfl, hb, fun i f hf => ?_⟩, fun f hf => ?_⟩
    · have hil : i < len := by have := (List.getElem?_eq_some_iff.1 hf).1; simpa using this
      have : f = g i := by simpa [hil] using hf.symm
      subst this
      exact (hg i hil).2
    · obtain ⟨i, hi, rfl⟩ := List.mem_map.1 hf
      exact (hg i (by simpa using hi)).1
/-- What a packet makes of a table of flows; an error's number. -/
def addR (L : List FW) (k : K4) (n : Int) : List FW × Int := match findF L k 0 with
  | some p => (L.set p.1 ⟨k, IntKind.u64.wrap (p.2.p + 1), IntKind.u64.wrap (p.2.b + n)⟩, 0)
  | none => if L.length = 256 then (L, 5) else (L ++ [⟨k, 1, n⟩], 0)
/-- No key twice; no more than 256 flows. -/
structure Tab (L : List FW) : Prop where
  len : L.length ≤ 256
  nd : (L.map (·.k)).Nodup
theorem Tab.nil : Tab [] := ⟨by simp, by simp⟩
theorem addR_tab {L : List FW} (h : Tab L) (k : K4) (n : Int) : Tab (addR L k n).1 := by
  unfold addR
  cases hf : findF L k 0 with
  | some p =>
    obtain ⟨i, g⟩ := p
    obtain ⟨m, e1, e2, e3⟩ := findF_some L k 0 i g hf
    obtain rfl : i = m := by omega
    refine ⟨by show (L.set i _).length ≤ 256; rw [List.length_set]; exact h.len, ?_⟩
    show ((L.set i (⟨k, IntKind.u64.wrap (g.p + 1), IntKind.u64.wrap (g.b + n)⟩ : FW)).map (fun x : FW => x.k)).Nodup
    have : (L.set i (⟨k, IntKind.u64.wrap (g.p + 1), IntKind.u64.wrap (g.b + n)⟩ : FW)).map (fun x : FW => x.k) = L.map (fun x : FW => x.k) := by
      rw [List.map_set]
      apply List.ext_getElem?
      intro j
      rw [List.getElem?_set]
      by_cases hij : i = j
      · subst hij
        have hil : i < L.length := (List.getElem?_eq_some_iff.1 e2).1
        rw [if_pos rfl, if_pos (by simpa using hil), List.getElem?_map, e2]
        simp [e3]
      · rw [if_neg hij]
    rw [this]; exact h.nd
  | none =>
    show Tab ((if L.length = 256 then (L, 5) else (L ++ [(⟨k, 1, n⟩ : FW)], 0) : List FW × Int)).1
    by_cases h1 : L.length = 256
    · rw [if_pos h1]; exact h
    · rw [if_neg h1]
      refine ⟨by have := h.len; simp; omega, ?_⟩
      show ((L ++ [(⟨k, 1, n⟩ : FW)]).map (fun x : FW => x.k)).Nodup
      rw [List.map_append, List.map_cons, List.map_nil]
      refine List.nodup_append.2 ⟨h.nd, by simp, fun a ha b hb => ?_⟩
      obtain ⟨f, hfm, rfl⟩ := List.mem_map.1 ha
      simp at hb
      subst hb
      exact findF_none L _ 0 hf f hfm
theorem fAddAny (T M : Nat) (L : List FW) (k : K4) (n : Int) (w : World) (hT : Blk w T #[.map (some M)] 132) (hM : MapW w M L) (hTM : M < T) (hn : 0 ≤ n ∧ n ≤ 9223372036854775807) :
    Calls Try.prog 33 #[.pointer (some ⟨T, 0, none⟩), kv k, .int .i64 n] w fun e w' => e = .returned (.int .i64 (addR L k n).2) ∧ MapW w' M (addR L k n).1 ∧ (∀ b, b < w.heap.size → b ≠ M → w'.heap[b]? = w.heap[b]?) ∧ Below M w w' := by
  unfold addR
  cases hf : findF L k 0 with
  | some p =>
    obtain ⟨i, g⟩ := p
    exact fAdd_set T M L k n i g w hT hM hTM hf hn _ _ rfl rfl
  | none =>
    by_cases h1 : L.length = 256
    · simp only [if_pos h1]
      exact fAdd_full T M L k n w hT hM hTM hf hn.1 h1
    · simp only [if_neg h1]
      exact fAdd_new T M L k n w hT hM hTM hf hn h1
theorem fAddNeg (T M : Nat) (L : List FW) (k : K4) (n : Int) (w : World) (hT : Blk w T #[.map (some M)] 132) (hM : MapW w M L) (hTM : M < T) (hn : n < 0) :
    Calls Try.prog 33 #[.pointer (some ⟨T, 0, none⟩), kv k, .int .i64 n] w fun e w' => e = .returned (.int .i64 26) ∧ MapW w' M L ∧ (∀ b, b < w.heap.size → b ≠ M → w'.heap[b]? = w.heap[b]?) ∧ Below M w w' := by
  cases hf : findF L k 0 with
  | some p => exact fAdd_neg1 T M L k n p.1 p.2 w hT hM hTM hf hn
  | none => exact fAdd_neg0 T M L k n w hT hM hTM hf hn
theorem rAddAny (L : List FW) (k : K4) (n : Int) (v : Value) (base : Nat) (w : World) (h : HoldR w base v L) (hb : base ≤ w.heap.size) (hn : L.length ≤ 300) (hr : 0 ≤ n ∧ n ≤ 9223372036854775807) :
    Calls Try.prog 34 #[v, kv k, .int .i64 n] w fun x w' => ∃ v', x = .returned (.tuple #[v', .int .i64 (addR L k n).2]) ∧ HoldR w' base v' (addR L k n).1 ∧ Below w.heap.size w w' := by
  unfold addR
  cases hf : findF L k 0 with
  | some p =>
    obtain ⟨i, g⟩ := p
    obtain ⟨m, e1, e2, e3⟩ := findF_some L k 0 i g hf
    obtain rfl : i = m := by omega
    refine (rAdd_set L k n v base w h hn hr i g _ _ rfl rfl hf e2).mono ?_
    rintro x w' ⟨v', q1, q2, q3⟩
    exact ⟨v', q1, q2.base_le hb, q3⟩
  | none =>
    by_cases h1 : L.length = 256
    · simp only [if_pos h1]
      refine (rAdd_full L k n v base w h hn hf h1).mono ?_
      rintro x w' ⟨q1, q3⟩
      exact ⟨v, q1, h.below q3, q3⟩
    · simp only [if_neg h1]
      refine (rAdd_new L k n v base w h hn hr hf h1).mono ?_
      rintro x w' ⟨v', q1, q2, q3⟩
      exact ⟨v', q1, q2.base_le hb, q3⟩
def getR (L : List FW) (k : K4) : FW := match findF L k 0 with | some p => p.2 | none => ⟨k, 0, 0⟩
theorem getR_k (L : List FW) (k : K4) : (getR L k).k = k := by
  unfold getR
  cases hf : findF L k 0 with
  | some p =>
    obtain ⟨i, g⟩ := p
    obtain ⟨m, e1, e2, e3⟩ := findF_some L k 0 i g hf
    exact e3
  | none => rfl
theorem fGetAny (T M : Nat) (L : List FW) (k : K4) (w : World) (hT : Blk w T #[.map (some M)] 132) (hM : MapW w M L) :
    Calls Try.prog 40 #[.pointer (some ⟨T, 0, none⟩), kv k] w fun e w' => e = .returned (fv (getR L k)) ∧ Below w.heap.size w w' := by
  unfold getR
  cases hf : findF L k 0 with
  | some p =>
    obtain ⟨i, g⟩ := p
    obtain ⟨m, e1, e2, e3⟩ := findF_some L k 0 i g hf
    have := fGet T M i L k g w hT hM.at hf
    subst e3
    exact this
  | none => exact fGetN T M L k w hT hM.at hf
theorem MapW.below0 {w v : World} {M : Nat} {L : List FW} (h : MapW w M L) (hb : Below w.heap.size w v) : MapW v M L := h.below hb h.lt
/-- Add turns no cells. -/
theorem HoldG.kept2 {α : Type} {e : TypeId} {n : Nat} {enc : α → List Value} {w w' : World} {base M : Nat} {v : Value} {l : List α} {L : List FW} (h : HoldG e n enc w base v l) (hM : MapW w M L) (ho : ∀ b, b < w.heap.size → b ≠ M → w'.heap[b]? = w.heap[b]?) : HoldG e n enc w' base v l := by
  obtain ⟨h1, h2⟩ := h
  refine ⟨h1, ?_⟩
  rcases h2 with h2 | ⟨g, cap, cur, e, hg, hh, q⟩
  · exact .inl h2
  · refine .inr ⟨g, cap, cur, e, hg, (ho g (Array.getElem?_eq_some_iff.1 hh).1 (fun e => ?_)).trans hh, q⟩
    obtain ⟨es, c, hb, _⟩ := hM
    rw [← e, hh] at hb; cases hb
theorem Blk.kept2 {w w' : World} {B M : Nat} {cs : Array Value} {t : TypeId} {L : List FW} (h : Blk w B cs t) (hM : MapW w M L) (ho : ∀ b, b < w.heap.size → b ≠ M → w'.heap[b]? = w.heap[b]?) : Blk w' B cs t := by
  refine (ho B h.size (fun e => ?_)).trans h
  obtain ⟨es, c, hb, _⟩ := hM
  have h' : w.heap[B]? = some (.cells cs t) := h
  rw [e, hb] at h'; cases h'
theorem MapW.ne {w : World} {B M : Nat} {cs : Array Value} {t : TypeId} {L : List FW} (hM : MapW w M L) (h : Blk w B cs t) : M ≠ B := fun e => by
  obtain ⟨es, c, hb, _⟩ := hM
  have h' : w.heap[B]? = some (.cells cs t) := h
  rw [← e, hb] at h'; cases h'
theorem findF_mem : ∀ (L : List FW) (j : Nat) (f : FW) (i : Nat), (L.map (·.k)).Nodup → L[i]? = some f → findF L f.k j = some (j + i, f)
  | [], _, _, _, _, h => by simp at h
  | g :: r, j, f, 0, hn, h => by
    simp at h; subst h
    unfold findF; rw [if_pos rfl]; rfl
  | g :: r, j, f, i + 1, hn, h => by
    rw [List.map_cons, List.nodup_cons] at hn
    have hf : r[i]? = some f := by simpa using h
    have hne : f.k ≠ g.k := fun e => hn.1 (by rw [← e]; exact List.mem_map.2 ⟨f, List.mem_of_getElem? hf, rfl⟩)
    unfold findF
    rw [if_neg hne, findF_mem r (j + 1) f i hn.2 hf]
    simp; omega
/-- Of flows sorted the heaviest first, each has just as many ahead of it as its place says. -/
theorem place_sorted {L S : List FW} (hp : S.Perm L) (hn : (L.map (·.k)).Nodup) (hs : ∀ (i j : Nat) (f g : FW), i < j → S[i]? = some f → S[j]? = some g → ¬ ltH g f) (i : Nat) (f : FW) (hf : S[i]? = some f) : (L.countP fun g => heav g f) = i := by
  have hnS : (S.map (·.k)).Nodup := (hp.map (·.k)).nodup_iff.2 hn
  rw [← hp.countP_eq]
  have hil : i < S.length := (List.getElem?_eq_some_iff.1 hf).1
  rw [← List.take_append_drop i S, List.countP_append]
  have h1 : (S.take i).countP (fun g => heav g f) = (S.take i).length := by
    rw [List.countP_eq_length]
    intro g hg
    obtain ⟨j, hj, hjg⟩ := List.getElem_of_mem hg
    have hji : j < i := by rw [List.length_take] at hj; omega
    have hgj : S[j]? = some g := by
      have : (S.take i)[j]? = some g := by rw [List.getElem?_eq_getElem hj, hjg]
      rw [List.getElem?_take_of_lt hji] at this; exact this
    have hno := hs j i g f hji hgj hf
    rw [heav_lt]
    have hk : g.k ≠ f.k := fun e => by
      have a1 : (S.map (·.k))[j]? = some g.k := by rw [List.getElem?_map, hgj]; rfl
      have a2 : (S.map (·.k))[i]? = some g.k := by rw [List.getElem?_map, hf, e]; rfl
      have := (List.getElem?_inj (by simp; omega) hnS).1 (a1.trans a2.symm)
      omega
    have hk' : ¬ (g.k.a = f.k.a ∧ g.k.b = f.k.b ∧ g.k.c = f.k.c ∧ g.k.d = f.k.d) := fun h => hk (k4_eq.2 h)
    unfold ltH at hno ⊢
    omega
  have h2 : (S.drop i).countP (fun g => heav g f) = 0 := by
    rw [List.countP_eq_zero]
    intro g hg
    obtain ⟨j, hj, hjg⟩ := List.getElem_of_mem hg
    have hgj : S[i + j]? = some g := by
      have : (S.drop i)[j]? = some g := by rw [List.getElem?_eq_getElem hj, hjg]
      rw [List.getElem?_drop] at this; exact this
    rw [heav_lt]
    by_cases hj0 : j = 0
    · subst hj0
      rw [Nat.add_zero, hf] at hgj
      cases hgj
      unfold ltH; omega
    · exact hs i (i + j) f g (by omega) hf hgj
  rw [h1, h2, List.length_take]; omega
end Go.Proofs.Ytljpiofpfankoaa
