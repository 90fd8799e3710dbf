/-
  Flows: slices.SortFunc by heavier: a permutation, the heaviest first. Conditions: what the slice holds is known.
-/
import Derived.Test.YtljpiofpfankoaaFlV
import Derived.Test.YtljpiofpfankoaaHold
import Derived.Shelf.SlSortCmp.NoneTotal
namespace Go.Proofs.Ytljpiofpfankoaa
open Go.RowKit Go.Sort Go.Shelf
set_option linter.unusedVariables false
set_option linter.unusedSimpArgs false
def fvs (f : FW) : List Value := [.int .u16 f.k.a, .int .u16 f.k.b, .int .u16 f.k.c, .int .u16 f.k.d, .int .u64 f.p, .int .u64 f.b]
theorem fvs_len (f : FW) : (fvs f).length = 6 := rfl
theorem fvs_one (f : FW) : ∀ u ∈ fvs f, u.oneCell' = true := by
  intro u hu
  unfold fvs at hu
  simp at hu
  rcases hu with rfl | rfl | rfl | rfl | rfl | rfl <;> rfl
instance : Inhabited FW := ⟨⟨⟨0, 0, 0, 0⟩, 0, 0⟩⟩
abbrev HoldF := HoldG (α := FW) 88 6 fvs
theorem ltH_of (f g : FW) : ltOf cmpH f g = true ↔ ltH f g := by
  unfold ltOf
  rw [decide_eq_true_iff]
  exact cmpH_lt f g
theorem ltH_of' (f g : FW) : ltOf cmpH f g = false ↔ ¬ ltH f g := by
  rw [← ltH_of]; simp
theorem swoH : SWO (ltOf cmpH) where
  irrefl x := by rw [ltH_of']; unfold ltH; omega
  trans x y z h1 h2 := by rw [ltH_of] at *; unfold ltH at *; omega
  ntrans x y z h1 h2 := by rw [ltH_of'] at *; unfold ltH at *; omega
theorem holds_of {w : World} {base : Nat} {v : Value} {L : List FW} {g cap : Nat} {cur : Array Value} (hh : w.heap[g]? = some (.cells cur 88)) (ht : cur.toList.take (L.length * 6) = L.flatMap fvs) : HoldsK fvs 6 w g 0 L.toArray := by
  intro t ht2
  have hts : t < L.length * 6 := by simpa using ht2
  have hcell : w.cell? ⟨g, 0 + t, none⟩ = cur[t]? := by simp [World.cell?, hh]
  refine ⟨?_, (show Blk w g cur 88 from hh).frozen _⟩
  rw [Nat.zero_add] at hcell ⊢
  rw [hcell]
  have hi : t / 6 < L.length := by omega
  obtain ⟨x, hx⟩ : ∃ x, L[t / 6]? = some x := ⟨_, List.getElem?_eq_getElem hi⟩
  have hj : t % 6 < 6 := Nat.mod_lt _ (by decide)
  obtain ⟨u, hu⟩ : ∃ u, (fvs x)[t % 6]? = some u := ⟨_, List.getElem?_eq_getElem (by rw [fvs_len]; exact hj)⟩
  have q := flat_get fvs_len L (t / 6) x hx (t % 6) u hu
  rw [show t / 6 * 6 + t % 6 = t by omega] at q
  have h1 : cur[t]? = some u := by
    rw [← Array.getElem?_toList]
    rw [← ht] at q
    rw [List.getElem?_take_of_lt hts] at q
    exact q
  rw [h1, get_flatK _ _ _ t (by simpa using hts)]
  have hxe : L.toArray[t / 6]! = x := by
    obtain ⟨h1, h2⟩ := List.getElem?_eq_some_iff.1 hx
    rw [getElem!_pos L.toArray (t / 6) (by simpa using h1)]; simpa using h2
  obtain ⟨hu1, hu2⟩ := List.getElem?_eq_some_iff.1 hu
  rw [hxe, getElem!_pos (fvs x) (t % 6) hu1, hu2]; rfl
theorem heap_putRowK {w : World} {blk k : Nat} (d : Array FW) (h : k ≠ blk) : (putRowK fvs 6 w blk 0 d).heap[k]? = w.heap[k]? := by
  unfold putRowK putRow mapBlock
  show (w.heap.modify blk _)[k]? = _
  rw [Array.getElem?_modify, if_neg (fun e => h e.symm)]
/-- The sort: a permutation, the heaviest first. -/
theorem flSort (base : Nat) (v : Value) (L : List FW) (w : World) (h : HoldF w base v L) (hn : L.length ≤ 1000) :
    Calls Try.prog 58 #[v, .func (.func 59) #[] #[]] w fun e w' => e = .returned (.tuple #[]) ∧ ∃ S : List FW, S.Perm L ∧ (∀ (i j : Nat) (f g : FW), i < j → S[i]? = some f → S[j]? = some g → ¬ ltH g f) ∧ (∃ (a : Option Addr) (cap g : Nat), v = .slice a L.length cap ∧ L.length ≤ cap ∧ (L ≠ [] → a = some ⟨g, 0, none⟩) ∧ (L ≠ [] → g < w'.heap.size) ∧ AtG 6 fvs w' g 0 S) ∧ Below base w w' := by
  obtain ⟨h1, h2⟩ := h
  rcases h2 with ⟨rfl, h0⟩ | ⟨g, cap, cur, rfl, hg, hh, hc, hm, hs, ht⟩
  · have hL : L = [] := List.length_eq_zero_iff.1 h0
    subst hL
    refine (AnyF.slices_SortFunc_none { sortFlow with } none 0 _ w).mono ?_
    rintro e w' ⟨he, rfl⟩
    exact ⟨he, [], List.Perm.refl _, fun i j f g _ hf => by simp at hf, ⟨none, 0, 0, rfl, Nat.le_refl _, fun h => absurd rfl h, fun h => absurd rfl h, fun i x hx => by simp at hx⟩, Below.refl _ _⟩
  · have hH := holds_of (base := base) (v := .slice none 0 0) (cap := cap) hh ht
    have hblk : g < w.heap.size := (Array.getElem?_eq_some_iff.1 hh).1
    have eg : ∀ args w, (callFunc 59 args).run Try.prog w = .ok (.enter 59 args) w := enters_of Try.func59 (by kernel_rfl) rfl
    have hcon := AnyQ.slices_SortFunc sortFlow 6 (fun _ => by kernel_rfl) (fun _ => by kernel_rfl) fvs fvs_len fvs_one cmpH swoH 59 #[] g 0 cap L.toArray w eg (fun _ _ _ _ x y => flHeavier x y _) hH hblk (by simp; omega)
    refine hcon.mono ?_
    rintro e w' ⟨he, d', n, os, hp, hso, rfl⟩
    obtain ⟨p1, _, p3⟩ := hp
    have hds : d'.size = L.length := by simpa using p1
    have hbel : Below base w (sortWorldK fvs 6 w g 0 n d' os) := by
      refine ⟨rfl, rfl, rfl, ?_, fun k hk => ?_⟩
      · show w.heap.size ≤ ((putRowK fvs 6 (Sort.ahead w n) g 0 d').heap ++ os).size
        have : (putRowK fvs 6 (Sort.ahead w n) g 0 d').heap.size = w.heap.size := size_putRow _ _ _ _ _
        rw [Array.size_append, this]; omega
      · show ((putRowK fvs 6 (Sort.ahead w n) g 0 d').heap ++ os)[k]? = _
        have hsz : (putRowK fvs 6 (Sort.ahead w n) g 0 d').heap.size = w.heap.size := size_putRow _ _ _ _ _
        rw [Array.getElem?_append_left (by omega), heap_putRowK _ (by omega)]; rfl
    refine ⟨he, d'.toList, ?_, ?_, ⟨some ⟨g, 0, none⟩, cap, g, by simp, hc, fun _ => rfl, fun _ => ?_, ?_⟩, hbel⟩
    · have := p3
      rw [show (L.toArray).size = L.length by simp, Array.extract_eq_self_of_le (by omega), Array.extract_eq_self_of_le (by simp)] at this
      simpa using this
    · intro i j f2 g2 hij hf hgg
      have hj : j < d'.size := by have := (List.getElem?_eq_some_iff.1 hgg).1; simpa using this
      have := hso i j (Nat.zero_le _) hij (by simp; omega)
      rw [ltH_of'] at this
      have e1 : d'[j]! = g2 := by rw [getElem!_pos d' j hj]; have := (List.getElem?_eq_some_iff.1 hgg).2; simpa using this
      have e2 : d'[i]! = f2 := by rw [getElem!_pos d' i (by omega)]; have := (List.getElem?_eq_some_iff.1 hf).2; simpa using this
      rw [e1, e2] at this; exact this
    · exact Nat.lt_of_lt_of_le hblk (by
        have : (putRowK fvs 6 (Sort.ahead w n) g 0 d').heap.size = w.heap.size := size_putRow _ _ _ _ _
        show _ ≤ ((putRowK fvs 6 (Sort.ahead w n) g 0 d').heap ++ os).size
        rw [Array.size_append, this]; omega)
    · have hH' : HoldsK fvs 6 (sortWorldK fvs 6 w g 0 n d' os) g 0 d' := holdsK_grow fvs 6 _ _ _ _ _ (by
        have : (putRowK fvs 6 (Sort.ahead w n) g 0 d').heap.size = w.heap.size := size_putRow _ _ _ _ _
        omega) (holdsK_putRowK fvs 6 _ _ _ L.toArray d' (holdsK_ahead fvs 6 _ n _ _ _ hH) (by simp [hds]))
      intro i x hx j u hj
      have hi : i < d'.size := by have := (List.getElem?_eq_some_iff.1 hx).1; simpa using this
      have hj' := (List.getElem?_eq_some_iff.1 hj).1
      rw [fvs_len] at hj'
      have := (hH'.cell hi hj').1
      have e1 : d'[i]! = x := by rw [getElem!_pos d' i hi]; have := (List.getElem?_eq_some_iff.1 hx).2; simpa using this
      rw [e1] at this
      have e2 : (fvs x)[j]! = u := by rw [getElem!_pos (fvs x) j (by rw [fvs_len]; exact hj')]; exact (List.getElem?_eq_some_iff.1 hj).2
      rw [e2] at this
      first | exact this | simpa [Nat.add_assoc] using this
end Go.Proofs.Ytljpiofpfankoaa
