/-
  Captures: the law's same, of the same frames. Conditions: what the slices hold is known.
-/
import Derived.Test.YtljpiofpfankoaaCpI
namespace Go.Proofs.Ytljpiofpfankoaa
open Go.RowKit Go.Sort
set_option linter.unusedVariables false
set_option linter.unusedSimpArgs false
set_option maxRecDepth 100000 in
set_option maxHeartbeats 4000000 in
theorem capSame (L : List FM) (a a' : Option Addr) (b off b' off' cap cap' : Nat) (w : World) (ha : L ≠ [] → a = some ⟨b, off, none⟩) (hb : L ≠ [] → b < w.heap.size) (hL : FmAt w b off L) (ha' : L ≠ [] → a' = some ⟨b', off', none⟩) (hb' : L ≠ [] → b' < w.heap.size) (hL' : FmAt w b' off' L) (hn : L.length ≤ 100000) (hcap : L.length ≤ cap) (hcap' : L.length ≤ cap') :
    Calls Try.prog 19 #[.slice a L.length cap, .slice a' L.length cap'] w fun x w' => x = .returned (.bool true) ∧ Below w.heap.size w w' := by
  go_enter Try.func19, Try.ntmps19
  go_wp2
  go_loopw [14] (fun i wr => ∃ (k : Nat), k ≤ L.length ∧ i = .int .i64 k ∧ Below w.heap.size w wr) (fun i _ => L.length - (intOf i).toNat)
  case atStart => exact ⟨0, Nat.zero_le _, rfl, by (repeat' (first | (with_reducible (first | exact Below.refl _ _ | assumption | refine below_drewN ?_ _ | refine Below.drew ?_ | refine Below.alloc ?_ ?_ _ | refine Below.setCell ?_ ?_ _)) | go_size))⟩
  case round =>
    obtain ⟨k, hk, rfl, g0⟩ := hrel
    have hl0 := g0.size
    by_cases hlt : k < L.length
    · obtain ⟨f, hf⟩ : ∃ f, L[k]? = some f := ⟨_, List.getElem?_eq_getElem hlt⟩
      have hne : L ≠ [] := by intro e; rw [e] at hlt; simp at hlt
      have hbw := hb hne
      have hbw' := hb' hne
      obtain rfl := ha hne
      obtain rfl := ha' hne
      obtain ⟨q0, q1⟩ := (hL.below g0 hbw) k f hf
      obtain ⟨p0, p1⟩ := (hL'.below g0 hbw') k f hf
      have z1 : b < wr.heap.size := by omega
      have z2 : b' < wr.heap.size := by omega
      have y0 : ∀ o : Obj, (wr.alloc o).cell? ⟨b', off' + k * 2, none⟩ = some (.int .u64 f.t) := fun o => ((Below.alloc (Below.refl _ _) (Nat.le_refl _) o).cell (p := ⟨b', off' + k * 2, none⟩) z2).trans p0
      have y1 : ∀ o : Obj, (wr.alloc o).cell? ⟨b', off' + k * 2 + 1, none⟩ = some (SV f.d) := fun o => ((Below.alloc (Below.refl _ _) (Nat.le_refl _) o).cell (p := ⟨b', off' + k * 2 + 1, none⟩) z2).trans p1
      have hki : (k : Int) < (L.length : Int) := by omega
      have hlb : (k : Int) ≤ 100000 := by omega
      go_wp2_with fail
      go_region
      all_goals
        go_wp2
        go_roundw
        case rel => exact ⟨k + 1, by omega, by go_num, by (repeat' (first | (with_reducible (first | exact Below.refl _ _ | assumption | refine below_drewN ?_ _ | refine Below.drew ?_ | refine Below.alloc ?_ ?_ _ | refine Below.setCell ?_ ?_ _)) | go_size))⟩
        case measure => simp [intOf]; omega
    · obtain rfl : k = L.length := by omega
      go_wp2
      go_ret
      exact ⟨rfl, by (repeat' (first | (with_reducible (first | exact Below.refl _ _ | assumption | refine below_drewN ?_ _ | refine Below.drew ?_ | refine Below.alloc ?_ ?_ _ | refine Below.setCell ?_ ?_ _)) | go_size))⟩
end Go.Proofs.Ytljpiofpfankoaa
