/-
  Captures: frames that came in; few, Wrong of too many frames. Conditions: what the slice of frames holds is known.
-/
import Derived.Test.YtljpiofpfankoaaCpP
import Derived.Test.YtljpiofpfankoaaCpO
import Derived.Deep.SlicePairs
namespace Go.Proofs.Ytljpiofpfankoaa
open Go.RowKit Go.Sort
set_option linter.unusedVariables false
set_option linter.unusedSimpArgs false
def FM.ok0 (f : FM) : Prop := (0 ≤ f.t ∧ f.t ≤ 18446744073709551615) ∧ Byt f.d
/-- Frames that came in. -/
def Frames (w : World) (a : Option Addr) (L : List FM) : Prop := (L ≠ [] → ∃ b off, a = some ⟨b, off, none⟩ ∧ b < w.heap.size ∧ FmAt w b off L) ∧ ∀ f ∈ L, f.ok0
theorem Frames.at {w : World} {a : Option Addr} {L : List FM} (h : Frames w a L) : ∃ b off, (L ≠ [] → a = some ⟨b, off, none⟩) ∧ (L ≠ [] → b < w.heap.size) ∧ FmAt w b off L := by
  by_cases h0 : L = []
  · subst h0
    exact ⟨0, 0, fun h => absurd rfl h, fun h => absurd rfl h, fun i f hf => by simp at hf⟩
  · obtain ⟨b, off, h1, h2, h3⟩ := h.1 h0
    exact ⟨b, off, fun _ => h1, fun _ => h2, h3⟩
theorem frames_cell_add {w : World} {b off : Nat} {n : Nat} {v : Option Value} (h : w.cell? ((⟨b, off, none⟩ : Addr).add n) = v) : w.cell? ⟨b, off + n, none⟩ = v := by
  unfold Addr.add at h
  by_cases h0 : n = 0
  · subst h0; simpa using h
  · rw [if_neg h0] at h; exact h
theorem open_frames {H : Type} {w : World} {base : Nat} {spare : Nat → Bool} {held : Bool} {enc : TypeId × Value → H} {s : Option Addr} {len cap fuel : Nat} {x : DataW H × List MemPlace} (h : DataW.trod enc Try.prog w base spare held fuel 22 [.slice s len cap] = some x) : ∃ L : List FM, L.length = len ∧ len ≤ cap ∧ cap ≤ maxLen ∧ Frames w s L := by
  have hu : ∃ f0 f1 : Field, Try.prog.underlying 55 = some (.struct #[f0, f1]) ∧ f0.offset = 0 ∧ f1.offset = 1 ∧ f0.type = 43 ∧ f1.type = 9 := ⟨_, _, Try.underlying55, rfl, rfl, rfl, rfl⟩
  obtain ⟨f0, f1, hu, o0, o1, t0, t1⟩ := hu
  rcases Go.Deep.open_slice_pairs Try.underlying22 hu (by kernel_rfl) o0 o1 (by rw [t0]; kernel_rfl) (by rw [t1]; kernel_rfl) h with ⟨hcs, _⟩ | ⟨a, len', cap', m, n, V0, V1, D0, D1, P0, P1, hcs, hb, hl, hm, hmm, hx, hi⟩
  · simp at hcs
    obtain ⟨rfl, rfl, rfl⟩ := hcs
    exact ⟨[], rfl, Nat.le_refl _, by unfold maxLen; omega, fun h => absurd rfl h, fun f hf => absurd hf (by simp)⟩
  · simp at hcs
    obtain ⟨rfl, rfl, rfl⟩ := hcs
    have hlm : len ≤ m := by rw [hmm]; split <;> omega
    have key : ∀ i, ∃ f : FM, i < len → f.ok0 ∧ w.cell? (a.add (i * 2)) = some (.int .u64 f.t) ∧ w.cell? (a.add (i * 2 + 1)) = some (SV f.d) := by
      intro i
      by_cases hil : i < len
      · obtain ⟨c0, c1, d0, d1⟩ := hi i (by omega)
        rw [t0] at d0; rw [t1] at d1
        obtain ⟨y0, e0, _, w0⟩ := DataW.trod_int Try.underlying43 d0
        obtain ⟨y1, e1, _, w1⟩ := DataW.trod_string Try.underlying9 d1
        simp at e0 e1
        refine ⟨⟨y0, numsOf y1⟩, fun _ => ⟨⟨bounds_u64 w0, numsOf_byt y1⟩, by rw [c0, e0], by rw [c1, e1, numsOf_sv]⟩⟩
      · exact ⟨⟨0, []⟩, fun h => absurd h hil⟩
    let g := fun i => Classical.choose (key i)
    have hg : ∀ i, i < len → (g i).ok0 ∧ w.cell? (a.add (i * 2)) = some (.int .u64 (g i).t) ∧ w.cell? (a.add (i * 2 + 1)) = some (SV (g i).d) := fun i => Classical.choose_spec (key i)
    clear_value g
    refine ⟨(List.range len).map g, by simp, hl, hm, fun hne => ?_, fun f hf => ?_⟩
    · have h0 : 0 < len := by
        rcases Nat.eq_zero_or_pos len with h | h
        · subst h; simp at hne
        · exact h
      obtain ⟨b, off, spot⟩ := a
      have hspot : spot = none := by
        have := (hg 0 h0).2.1
        simpa [Addr.add] using World.cell?_spot (by simpa [Addr.add] using this)
      subst hspot
      have hcell := frames_cell_add (hg 0 h0).2.1
      refine ⟨b, off, rfl, cell_block hcell, fun i f hf => ?_⟩
      have hil : i < len := by have := (List.getElem?_eq_some_iff.1 hf).1; simpa using this
      have : f = g i := by simpa [hil] using hf.symm
      subst this
      exact ⟨frames_cell_add (hg i hil).2.1, frames_cell_add (hg i hil).2.2⟩
    · obtain ⟨i, hi, rfl⟩ := List.mem_map.1 hf
      exact (hg i (by simpa using hi)).1
set_option maxRecDepth 100000 in
set_option maxHeartbeats 2000000 in
theorem capFew0 (L : List FM) (a : Option Addr) (b off cap : Nat) (r : Bool) (w : World) (ha : L ≠ [] → a = some ⟨b, off, none⟩) (hb : L ≠ [] → b < w.heap.size) (hL : FmAt w b off L) (hn : L.length ≤ 1001) (hcap : L.length ≤ cap) (hr : fewG L 0 = r) :
    Calls Try.prog 12 #[.slice a L.length cap] w fun e w' => e = .returned (.bool r) ∧ Below w.heap.size w w' := by
  have ks := sv_size
  have HR := hide hr; clear hr
  have d0 : decide (1001 < (L.length : Int)) = false := decide_eq_false (by omega)
  have d0n : decide (1001 < L.length) = false := decide_eq_false (by omega)
  go_enter Try.func12, Try.ntmps12
  go_wp2
  go_loopw [3, 11] (fun s i wr => ∃ (k : Nat) (n : Int), k ≤ L.length ∧ i = .int .i64 k ∧ s = .int .i64 n ∧ (0 ≤ n ∧ n ≤ k * 20000) ∧ Below w.heap.size w wr ∧ Hid (fewG (L.drop k) n = r)) (fun _ i _ => L.length - (intOf i).toNat)
  case atStart => exact ⟨0, 0, Nat.zero_le _, rfl, rfl, by omega, by (repeat' (first | (with_reducible (first | exact Below.refl _ _ | assumption | refine below_drewN ?_ _ | refine Below.drew ?_ | refine Below.alloc ?_ ?_ _ | refine Below.setCell ?_ ?_ _)) | go_size)), HR⟩
  case round =>
    obtain ⟨k, n, hk, rfl, rfl, hnn, g0, hcc⟩ := hrel
    have hl0 := g0.size
    by_cases hlt : k < L.length
    · obtain ⟨f, hf⟩ : ∃ f, L[k]? = some f := ⟨_, List.getElem?_eq_getElem hlt⟩
      have hne : L ≠ [] := by intro e; rw [e] at hlt; simp at hlt
      have hbw := hb hne
      obtain rfl := ha hne
      obtain ⟨q0, q1⟩ := (hL.below g0 hbw) k f hf
      have hst := hcc.out
      rw [drop_next hf] at hst
      have hki : (k : Int) < (L.length : Int) := by omega
      by_cases hlong : 20000 < f.d.length
      · have hres : false = r := by unfold fewG at hst; rw [if_pos hlong] at hst; exact hst
        have d1 : decide (20000 < (f.d.length : Int)) = true := decide_eq_true (by omega)
        have d1n : decide (20000 < f.d.length) = true := decide_eq_true hlong
        clear hcc hst
        subst hres
        go_wp2
        go_ret
        exact ⟨rfl, by (repeat' (first | (with_reducible (first | exact Below.refl _ _ | assumption | refine below_drewN ?_ _ | refine Below.drew ?_ | refine Below.alloc ?_ ?_ _ | refine Below.setCell ?_ ?_ _)) | go_size))⟩
      · have hN : Hid (fewG (L.drop (k + 1)) (n + f.d.length) = r) := by unfold fewG at hst; rw [if_neg hlong] at hst; exact hst
        have d1 : decide (20000 < (f.d.length : Int)) = false := decide_eq_false (by omega)
        have d1n : decide (20000 < f.d.length) = false := decide_eq_false hlong
        have hlb : (k : Int) ≤ 1001 := by omega
        have hw1 : IntKind.i64.wrap (n + (f.d.length : Int)) = n + (f.d.length : Int) := IntWalk.i64_in _ ⟨by omega, by omega⟩
        clear hcc hst
        go_wp2
        go_roundw
        case rel => exact ⟨k + 1, n + f.d.length, by omega, by go_num, rfl, by omega, by (repeat' (first | (with_reducible (first | exact Below.refl _ _ | assumption | refine below_drewN ?_ _ | refine Below.drew ?_ | refine Below.alloc ?_ ?_ _ | refine Below.setCell ?_ ?_ _)) | go_size)), hN⟩
        case measure => simp [intOf]; omega
    · obtain rfl : k = L.length := by omega
      have hres : decide (n ≤ 200000) = r := by have := hcc.out; rw [List.drop_length] at this; exact this
      clear hcc
      go_wp2
      go_ret
      subst hres
      exact ⟨rfl, by (repeat' (first | (with_reducible (first | exact Below.refl _ _ | assumption | refine below_drewN ?_ _ | refine Below.drew ?_ | refine Below.alloc ?_ ?_ _ | refine Below.setCell ?_ ?_ _)) | go_size))⟩
set_option maxRecDepth 100000 in
theorem capFew_long (a : Option Addr) (n cap : Nat) (w : World) (hn : 1001 < n) : Calls Try.prog 12 #[.slice a n cap] w fun e w' => e = .returned (.bool false) ∧ Below w.heap.size w w' := by
  have d0 : decide (1001 < (n : Int)) = true := decide_eq_true (by omega)
  have d0n : decide (1001 < n) = true := decide_eq_true (by omega)
  go_enter Try.func12, Try.ntmps12
  go_wp2
  go_ret
  exact ⟨rfl, by (repeat' (first | (with_reducible (first | exact Below.refl _ _ | assumption | refine below_drewN ?_ _ | refine Below.drew ?_ | refine Below.alloc ?_ ?_ _ | refine Below.setCell ?_ ?_ _)) | go_size))⟩
set_option maxRecDepth 100000 in
theorem rWrong_long (a : Option Addr) (n cap : Nat) (w : World) (hn : 1000 < n) : Calls Try.prog 15 #[.slice a n cap] w fun e w' => e = .returned (.int .i64 2) ∧ Below w.heap.size w w' := by
  have d0 : decide (1000 < (n : Int)) = true := decide_eq_true (by omega)
  have d0n : decide (1000 < n) = true := decide_eq_true (by omega)
  go_enter Try.func15, Try.ntmps15
  go_wp2
  go_ret
  exact ⟨rfl, by (repeat' (first | (with_reducible (first | exact Below.refl _ _ | assumption | refine below_drewN ?_ _ | refine Below.drew ?_ | refine Below.alloc ?_ ?_ _ | refine Below.setCell ?_ ?_ _)) | go_size))⟩
theorem few_all : ∀ (L : List FM) (n : Int), fewG L n = true → ∀ f ∈ L, f.d.length ≤ 20000
  | f :: r, n, h, g, hg => by
    unfold fewG at h
    by_cases c : 20000 < f.d.length
    · rw [if_pos c] at h; cases h
    rw [if_neg c] at h
    rcases List.mem_cons.1 hg with rfl | hg
    · omega
    · exact few_all r _ h g hg
end Go.Proofs.Ytljpiofpfankoaa
