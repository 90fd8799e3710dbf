/-
  Captures: slices of frames; few, same. Conditions: what the slices hold is known.
-/
import Derived.Test.YtljpiofpfankoaaCpD
namespace Go.Proofs.Ytljpiofpfankoaa
open Go.RowKit Go.Sort
set_option linter.unusedVariables false
set_option linter.unusedSimpArgs false
structure FM where
  (t : Int)
  (d : List Int)
/-- The frames lie at this place. -/
def FmAt (w : World) (b off : Nat) (L : List FM) : Prop := ∀ i f, L[i]? = some f → w.cell? ⟨b, off + i * 2, none⟩ = some (.int .u64 f.t) ∧ w.cell? ⟨b, off + i * 2 + 1, none⟩ = some (SV f.d)
theorem FmAt.below {w w' : World} {b off K : Nat} {L : List FM} (h : FmAt w b off L) (hb : Below K w w') (hB : b < K) : FmAt w' b off L := fun i f hi => by
  have cc : ∀ o, w'.cell? ⟨b, o, none⟩ = w.cell? ⟨b, o, none⟩ := fun o => hb.cell (p := ⟨b, o, none⟩) hB
  simp only [cc]
  exact h i f hi
def FM.ok (f : FM) : Prop := (0 ≤ f.t ∧ f.t ≤ 18446744073709551615) ∧ Byt f.d ∧ f.d.length ≤ 140737488351232
def fewG : List FM → Int → Bool
  | [], n => decide (n ≤ 200000)
  | f :: r, n => if 20000 < f.d.length then false else fewG r (n + f.d.length)
theorem drop_next {L : List FM} {k : Nat} {f : FM} (h : L[k]? = some f) : L.drop k = f :: L.drop (k + 1) := by
  obtain ⟨hk, e⟩ := List.getElem?_eq_some_iff.1 h
  rw [List.drop_eq_getElem_cons hk, e]
set_option maxRecDepth 100000 in
set_option maxHeartbeats 2000000 in
theorem capFew (L : List FM) (a : Option Addr) (b off cap : Nat) (r : Bool) (w : World) (ha : L ≠ [] → a = some ⟨b, off, none⟩) (hb : L ≠ [] → b < w.heap.size) (hL : FmAt w b off L) (ok : ∀ f ∈ L, f.ok) (hn : L.length ≤ 1001) (hcap : L.length ≤ cap) (hr : fewG L 0 = r) :
    Calls Try.prog 12 #[.slice a L.length cap] w fun e w' => e = .returned (.bool r) ∧ Below w.heap.size w w' := by
  have ks := sv_size
  have HR := hide hr; clear hr
  have d0 : decide (1001 < (L.length : Int)) = false := decide_eq_false (by omega)
  have d0n : decide (1001 < L.length) = false := decide_eq_false (by omega)
  go_enter Try.func12, Try.ntmps12
  go_wp2
  go_loopw [3, 11] (fun s i wr => ∃ (k : Nat) (n : Int), k ≤ L.length ∧ i = .int .i64 k ∧ s = .int .i64 n ∧ (0 ≤ n ∧ n ≤ k * 20000) ∧ Below w.heap.size w wr ∧ Hid (fewG (L.drop k) n = r)) (fun _ i _ => L.length - (intOf i).toNat)
  case atStart => exact ⟨0, 0, Nat.zero_le _, rfl, rfl, by omega, by (repeat' (first | (with_reducible (first | exact Below.refl _ _ | assumption | refine below_drewN ?_ _ | refine Below.drew ?_ | refine Below.alloc ?_ ?_ _ | refine Below.setCell ?_ ?_ _)) | go_size)), HR⟩
  case round =>
    obtain ⟨k, n, hk, rfl, rfl, hnn, g0, hcc⟩ := hrel
    have hl0 := g0.size
    by_cases hlt : k < L.length
    · obtain ⟨f, hf⟩ : ∃ f, L[k]? = some f := ⟨_, List.getElem?_eq_getElem hlt⟩
      have hne : L ≠ [] := by intro e; rw [e] at hlt; simp at hlt
      have hbw := hb hne
      obtain rfl := ha hne
      obtain ⟨q0, q1⟩ := (hL.below g0 hbw) k f hf
      have okf := ok f (List.mem_of_getElem? hf)
      obtain ⟨o1, o2, o3⟩ := okf
      have hst := hcc.out
      rw [drop_next hf] at hst
      have hki : (k : Int) < (L.length : Int) := by omega
      by_cases hlong : 20000 < f.d.length
      · have hres : false = r := by unfold fewG at hst; rw [if_pos hlong] at hst; exact hst
        have d1 : decide (20000 < (f.d.length : Int)) = true := decide_eq_true (by omega)
        have d1n : decide (20000 < f.d.length) = true := decide_eq_true hlong
        clear hcc hst
        subst hres
        go_wp2
        go_ret
        exact ⟨rfl, by (repeat' (first | (with_reducible (first | exact Below.refl _ _ | assumption | refine below_drewN ?_ _ | refine Below.drew ?_ | refine Below.alloc ?_ ?_ _ | refine Below.setCell ?_ ?_ _)) | go_size))⟩
      · have hN : Hid (fewG (L.drop (k + 1)) (n + f.d.length) = r) := by unfold fewG at hst; rw [if_neg hlong] at hst; exact hst
        have d1 : decide (20000 < (f.d.length : Int)) = false := decide_eq_false (by omega)
        have d1n : decide (20000 < f.d.length) = false := decide_eq_false hlong
        have hlb : (k : Int) ≤ 1001 := by omega
        have hw1 : IntKind.i64.wrap (n + (f.d.length : Int)) = n + (f.d.length : Int) := IntWalk.i64_in _ ⟨by omega, by omega⟩
        clear hcc hst
        go_wp2
        go_roundw
        case rel => exact ⟨k + 1, n + f.d.length, by omega, by go_num, rfl, by omega, by (repeat' (first | (with_reducible (first | exact Below.refl _ _ | assumption | refine below_drewN ?_ _ | refine Below.drew ?_ | refine Below.alloc ?_ ?_ _ | refine Below.setCell ?_ ?_ _)) | go_size)), hN⟩
        case measure => simp [intOf]; omega
    · obtain rfl : k = L.length := by omega
      have hres : decide (n ≤ 200000) = r := by have := hcc.out; rw [List.drop_length] at this; exact this
      clear hcc
      go_wp2
      go_ret
      subst hres
      exact ⟨rfl, by (repeat' (first | (with_reducible (first | exact Below.refl _ _ | assumption | refine below_drewN ?_ _ | refine Below.drew ?_ | refine Below.alloc ?_ ?_ _ | refine Below.setCell ?_ ?_ _)) | go_size))⟩
end Go.Proofs.Ytljpiofpfankoaa
