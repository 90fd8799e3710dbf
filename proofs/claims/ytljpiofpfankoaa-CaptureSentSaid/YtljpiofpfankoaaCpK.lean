/-
  Captures: the reference's Wrong. Conditions: what the slice holds is known.
-/
import Derived.Test.YtljpiofpfankoaaCpJ
namespace Go.Proofs.Ytljpiofpfankoaa
open Go.RowKit Go.Sort
set_option linter.unusedVariables false
set_option linter.unusedSimpArgs false
set_option maxRecDepth 100000 in
set_option maxHeartbeats 8000000 in
theorem rWrong46 (L : List FM) (a : Option Addr) (b off cap : Nat) (e : Int) (w : World) (ha : L ≠ [] → a = some ⟨b, off, none⟩) (hb : L ≠ [] → b < w.heap.size) (hL : FmAt w b off L) (ok : ∀ f ∈ L, f.ok) (hn : L.length ≤ 1000) (hcap : L.length ≤ cap) (he : capE L 0 = e) :
    Calls Try.prog 15 #[.slice a L.length cap] w fun x w' => x = .returned (.int .i64 e) ∧ Below w.heap.size w w' := by
  have ks := sv_size
  have HE := hide he; clear he
  have d0 : decide (1000 < (L.length : Int)) = false := decide_eq_false (by omega)
  have d0n : decide (1000 < L.length) = false := decide_eq_false (by omega)
  go_enter Try.func15, Try.ntmps15
  go_wp2
  go_loopw [10] (fun i wr => ∃ (k : Nat) (last : Int), k ≤ L.length ∧ i = .int .i64 k ∧ (k = 0 → last = 0) ∧ (∀ m f, k = m + 1 → L[m]? = some f → f.t = last) ∧ Below w.heap.size w wr ∧ Hid (capE (L.drop k) last = e)) (fun i _ => L.length - (intOf i).toNat)
  case atStart => exact ⟨0, 0, Nat.zero_le _, rfl, fun _ => rfl, fun m f h => by omega, by (repeat' (first | (with_reducible (first | exact Below.refl _ _ | assumption | refine below_drewN ?_ _ | refine Below.drew ?_ | refine Below.alloc ?_ ?_ _ | refine Below.setCell ?_ ?_ _)) | go_size)), HE⟩
  case round =>
    obtain ⟨k, last, hk, rfl, hk0, hlast, g0, hcc⟩ := hrel
    have hl0 := g0.size
    by_cases hlt : k < L.length
    · obtain ⟨f, hf⟩ : ∃ f, L[k]? = some f := ⟨_, List.getElem?_eq_getElem hlt⟩
      have hne : L ≠ [] := by intro e; rw [e] at hlt; simp at hlt
      have hbw := hb hne
      obtain rfl := ha hne
      obtain ⟨q0, q1⟩ := (hL.below g0 hbw) k f hf
      obtain ⟨o1, o2, o3⟩ := ok f (List.mem_of_getElem? hf)
      have hst := hcc.out
      rw [drop_next hf] at hst
      have z1 : b < wr.heap.size := by omega
      have hki : (k : Int) < (L.length : Int) := by omega
      have hlb : (k : Int) ≤ 1000 := by omega
      by_cases c1 : f.d.length = 0
      · have hres : 26 = e := by unfold capE at hst; rw [if_pos (.inl c1)] at hst; exact hst
        have d1 : decide ((f.d.length : Int) < 1) = true := decide_eq_true (by omega)
        clear hcc hst
        subst hres
        go_wp2
        go_ret
        exact ⟨rfl, by (repeat' (first | (with_reducible (first | exact Below.refl _ _ | assumption | refine below_drewN ?_ _ | refine Below.drew ?_ | refine Below.alloc ?_ ?_ _ | refine Below.setCell ?_ ?_ _)) | go_size))⟩
      have d1 : decide ((f.d.length : Int) < 1) = false := decide_eq_false (by omega)
      by_cases c2 : 16384 < f.d.length
      · have hres : 26 = e := by unfold capE at hst; rw [if_pos (.inr c2)] at hst; exact hst
        have d2 : decide (16384 < (f.d.length : Int)) = true := decide_eq_true (by omega)
        have d2n : decide (16384 < f.d.length) = true := decide_eq_true c2
        clear hcc hst
        subst hres
        go_wp2
        go_ret
        exact ⟨rfl, by (repeat' (first | (with_reducible (first | exact Below.refl _ _ | assumption | refine below_drewN ?_ _ | refine Below.drew ?_ | refine Below.alloc ?_ ?_ _ | refine Below.setCell ?_ ?_ _)) | go_size))⟩
      have d2 : decide (16384 < (f.d.length : Int)) = false := decide_eq_false (by omega)
      have d2n : decide (16384 < f.d.length) = false := decide_eq_false c2
      unfold capE at hst
      rw [if_neg (by omega)] at hst
      by_cases c4 : 4611686018427387904 < f.t
      · have hres : 27 = e := by rw [if_pos (.inr c4)] at hst; exact hst
        have d4 : decide (4611686018427387904 < f.t) = true := decide_eq_true c4
        clear hcc hst
        subst hres
        go_wp2_with fail
        go_region
        all_goals
          go_wp2
          go_ret
          exact ⟨rfl, by (repeat' (first | (with_reducible (first | exact Below.refl _ _ | assumption | refine below_drewN ?_ _ | refine Below.drew ?_ | refine Below.alloc ?_ ?_ _ | refine Below.setCell ?_ ?_ _)) | go_size))⟩
      have d4 : decide (4611686018427387904 < f.t) = false := decide_eq_false c4
      cases k with
      | zero =>
        obtain rfl := hk0 rfl
        have q0' : wr.cell? ⟨b, off, none⟩ = some (.int .u64 f.t) := by simpa using q0
        have q1' : wr.cell? ⟨b, off + 1, none⟩ = some (SV f.d) := by simpa using q1
        have hki0 : (0 : Int) < (L.length : Int) := by omega
        have hki1 : 0 < L.length := by omega
        clear q0 q1
        have hN : Hid (capE (L.drop (0 + 1)) f.t = e) := by rw [if_neg (by omega)] at hst; exact hst
        clear hcc hst
        go_wp2_with fail
        go_region
        all_goals
          go_wp2
          go_roundw
          case rel => exact ⟨0 + 1, f.t, by omega, by go_num, fun h => by omega, fun m g h hg => by (obtain rfl : m = 0 := by omega); rw [hf] at hg; cases hg; rfl, by (repeat' (first | (with_reducible (first | exact Below.refl _ _ | assumption | refine below_drewN ?_ _ | refine Below.drew ?_ | refine Below.alloc ?_ ?_ _ | refine Below.setCell ?_ ?_ _)) | go_size)), hN⟩
          case measure => simp [intOf]; omega
      | succ m =>
        obtain ⟨f0, hf0⟩ : ∃ f0, L[m]? = some f0 := ⟨_, List.getElem?_eq_getElem (by omega)⟩
        have hlt0 := hlast m f0 rfl hf0
        obtain ⟨r0, _⟩ := (hL.below g0 hbw) m f0 hf0
        rw [hlt0] at r0
        have y0 : ∀ o : Obj, (wr.alloc o).cell? ⟨b, off + m * 2, none⟩ = some (.int .u64 last) := fun o => ((Below.alloc (Below.refl _ _) (Nat.le_refl _) o).cell (p := ⟨b, off + m * 2, none⟩) z1).trans r0
        have em : (m : Int) + 1 - 1 = (m : Int) := by omega
        have dk : decide (0 < (m : Int) + 1) = true := decide_eq_true (by omega)
        have hmi : (m : Int) < (L.length : Int) := by omega
        have hmn : m < L.length := by omega
        have htn : (m : Int).toNat = m := Int.toNat_natCast m
        by_cases c3 : f.t < last
        · have hres : 27 = e := by rw [if_pos (.inl c3)] at hst; exact hst
          have d3 : decide (f.t < last) = true := decide_eq_true c3
          clear hcc hst
          subst hres
          go_wp2_with fail
          go_region
          all_goals
            go_wp2
            go_ret
            exact ⟨rfl, by (repeat' (first | (with_reducible (first | exact Below.refl _ _ | assumption | refine below_drewN ?_ _ | refine Below.drew ?_ | refine Below.alloc ?_ ?_ _ | refine Below.setCell ?_ ?_ _)) | go_size))⟩
        have d3 : decide (f.t < last) = false := decide_eq_false c3
        have hN : Hid (capE (L.drop (m + 1 + 1)) f.t = e) := by rw [if_neg (by omega)] at hst; exact hst
        clear hcc hst
        go_wp2_with fail
        go_region
        all_goals
          go_wp2
          go_roundw
          case rel => exact ⟨m + 1 + 1, f.t, by omega, by go_num, fun h => by omega, fun j g h hg => by (obtain rfl : j = m + 1 := by omega); rw [hf] at hg; cases hg; rfl, by (repeat' (first | (with_reducible (first | exact Below.refl _ _ | assumption | refine below_drewN ?_ _ | refine Below.drew ?_ | refine Below.alloc ?_ ?_ _ | refine Below.setCell ?_ ?_ _)) | go_size)), hN⟩
          case measure => simp [intOf]; omega
    · obtain rfl : k = L.length := by omega
      have hres : e = 0 := by have := hcc.out; rw [List.drop_length] at this; exact this.symm
      clear hcc
      subst hres
      go_wp2
      go_ret
      exact ⟨rfl, by (repeat' (first | (with_reducible (first | exact Below.refl _ _ | assumption | refine below_drewN ?_ _ | refine Below.drew ?_ | refine Below.alloc ?_ ?_ _ | refine Below.setCell ?_ ?_ _)) | go_size))⟩
end Go.Proofs.Ytljpiofpfankoaa
