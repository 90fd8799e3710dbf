/-
  The reference's tables of flows: Heavier, Place; the law's ref; Get of a flow that is not there. Conditions: what the slice holds is known.
-/
import Derived.Test.YtljpiofpfankoaaFlY
import Derived.Test.YtljpiofpfankoaaFlZ
namespace Go.Proofs.Ytljpiofpfankoaa
open Go.RowKit Go.Sort
set_option linter.unusedVariables false
set_option linter.unusedSimpArgs false
def lexB : List Int → List Int → Bool
  | x :: xs, y :: ys => if x ≠ y then decide (x < y) else lexB xs ys
  | _, _ => false
def heav (a b : FW) : Bool := if a.b ≠ b.b then decide (b.b < a.b) else lexB (kl a.k) (kl b.k)
theorem heav_lt (a b : FW) : heav a b = true ↔ ltH a b := by
  unfold heav ltH kl
  by_cases h : a.b ≠ b.b
  · rw [if_pos h, decide_eq_true_iff]; constructor <;> intro h <;> omega
  · rw [if_neg h]
    simp only [lexB]
    repeat' split
    all_goals (simp only [decide_eq_true_iff, Bool.false_eq_true, false_iff]; (try constructor) <;> (try intro h) <;> omega)
theorem lookZ {w : World} {M : Nat} {L : List FW} {k : K4} (h : MapAt w M L) (hf : findF L k 0 = none) : (Instr.lookup 130 (.map (some M)) (kv k) false).run Try.prog w = .ok (fv ⟨⟨0, 0, 0, 0⟩, 0, 0⟩) w := by
  have := run_lookupF1 h k; rw [hf] at this; exact this
set_option maxRecDepth 100000 in
set_option maxHeartbeats 4000000 in
theorem rRef45 (f : FW) (w : World) : Calls Try.prog 38 #[.agg #[.int .u16 f.k.a, .int .u16 f.k.b, .int .u16 f.k.c, .int .u16 f.k.d, .int .u64 f.p, .int .u64 f.b]] w fun e w' => e = .returned (.agg #[.int .u16 f.k.a, .int .u16 f.k.b, .int .u16 f.k.c, .int .u16 f.k.d, .int .u64 f.p, .int .u64 f.b]) ∧ Below w.heap.size w w' := by
  go_enter Try.func38, Try.ntmps38
  go_wp2
  refine bp_forget (fun v => Below w.heap.size w v ∧ Blk v (w.heap.size + 1) #[.int .u16 f.k.a, .int .u16 f.k.b, .int .u16 f.k.c, .int .u16 f.k.d, .int .u64 f.p, .int .u64 f.b] 90) ⟨by (repeat' (first | (with_reducible (first | exact Below.refl _ _ | assumption | refine below_drewN ?_ _ | refine Below.drew ?_ | refine Below.alloc ?_ ?_ _ | refine Below.setCell ?_ ?_ _)) | go_size)), by (repeat' (first | (with_reducible (first | assumption | exact Blk.alloc_new _ _ _ (by first | rfl | (simp; done) | omega) | apply Blk.drewN | apply Blk.drew | apply Blk.alloc_old | apply Blk.set_same | apply Blk.set_other)) | (show (_ : Nat) ≠ _; first | omega | (simp; done) | (simp; omega)) | ((simp only [List.setIfInBounds_toArray, List.set_cons_succ, List.set_cons_zero]); (with_reducible exact rfl)) | (with_reducible exact rfl) | (show (_ : Array Value) = _; exact rfl)))⟩ ?_
  rintro v ⟨gv, Bv⟩
  refine bodyPost_ret (v := .agg #[.int .u16 f.k.a, .int .u16 f.k.b, .int .u16 f.k.c, .int .u16 f.k.d, .int .u64 f.p, .int .u64 f.b]) ?_ ?_ ?_
  · exact results_blk (w.heap.size + 1) #[.int .u16 f.k.a, .int .u16 f.k.b, .int .u16 f.k.c, .int .u16 f.k.d, .int .u64 f.p, .int .u64 f.b] 90 _ _ _ Try.results38 (by rfl) Bv Try.underlying90 rfl (by kernel_rfl)
  · rfl
  · exact ⟨rfl, gv⟩
set_option maxRecDepth 100000 in
set_option maxHeartbeats 8000000 in
theorem rHeavier (a b : FW) (r : Bool) (w : World) (hr : heav a b = r) : Calls Try.prog 60 #[.agg #[.int .u16 a.k.a, .int .u16 a.k.b, .int .u16 a.k.c, .int .u16 a.k.d, .int .u64 a.p, .int .u64 a.b], .agg #[.int .u16 b.k.a, .int .u16 b.k.b, .int .u16 b.k.c, .int .u16 b.k.d, .int .u64 b.p, .int .u64 b.b]] w fun e w' => e = .returned (.bool r) ∧ Below w.heap.size w w' := by
  unfold heav at hr
  by_cases h1 : a.b ≠ b.b
  · rw [if_pos h1] at hr
    have hb : (a.b != b.b) = true := bne_iff_ne.2 h1
    subst hr
    clear h1
    go_enter Try.func60, Try.ntmps60
    go_wp2
    go_ret
    exact ⟨rfl, by (repeat' (first | (with_reducible (first | exact Below.refl _ _ | assumption | refine below_drewN ?_ _ | refine Below.drew ?_ | refine Below.alloc ?_ ?_ _ | refine Below.setCell ?_ ?_ _)) | go_size))⟩
  · rw [if_neg h1] at hr
    have hb : (a.b != b.b) = false := by simpa using h1
    have HR : Hid (lexB ((kl a.k).drop 0) ((kl b.k).drop 0) = r) := hide hr
    clear h1 hr
    go_enter Try.func60, Try.ntmps60
    go_wp2
    go_loopw [16] (fun i wr => ∃ n : Nat, n ≤ 4 ∧ i = .int .i64 n ∧ Below w.heap.size w wr ∧ Blk wr w.heap.size #[.int .u16 a.k.a, .int .u16 a.k.b, .int .u16 a.k.c, .int .u16 a.k.d, .int .u64 a.p, .int .u64 a.b] 90 ∧ Blk wr (w.heap.size + 1) #[.int .u16 b.k.a, .int .u16 b.k.b, .int .u16 b.k.c, .int .u16 b.k.d, .int .u64 b.p, .int .u64 b.b] 90 ∧ Hid (lexB ((kl a.k).drop n) ((kl b.k).drop n) = r)) (fun i _ => 4 - (intOf i).toNat)
    case atStart => exact ⟨0, Nat.zero_le _, rfl, by (repeat' (first | (with_reducible (first | exact Below.refl _ _ | assumption | refine below_drewN ?_ _ | refine Below.drew ?_ | refine Below.alloc ?_ ?_ _ | refine Below.setCell ?_ ?_ _)) | go_size)), by (repeat' (first | (with_reducible (first | assumption | exact Blk.alloc_new _ _ _ (by first | rfl | (simp; done) | omega) | apply Blk.drewN | apply Blk.drew | apply Blk.alloc_old | apply Blk.set_same | apply Blk.set_other)) | (show (_ : Nat) ≠ _; first | omega | (simp; done) | (simp; omega)) | ((simp only [List.setIfInBounds_toArray, List.set_cons_succ, List.set_cons_zero]); (with_reducible exact rfl)) | (with_reducible exact rfl) | (show (_ : Array Value) = _; exact rfl))), by (repeat' (first | (with_reducible (first | assumption | exact Blk.alloc_new _ _ _ (by first | rfl | (simp; done) | omega) | apply Blk.drewN | apply Blk.drew | apply Blk.alloc_old | apply Blk.set_same | apply Blk.set_other)) | (show (_ : Nat) ≠ _; first | omega | (simp; done) | (simp; omega)) | ((simp only [List.setIfInBounds_toArray, List.set_cons_succ, List.set_cons_zero]); (with_reducible exact rfl)) | (with_reducible exact rfl) | (show (_ : Array Value) = _; exact rfl))), HR⟩
    case round =>
      obtain ⟨n, hn, rfl, g0, A0, B0, hcc⟩ := hrel
      have cA := A0.cell; have fA := A0.frozen; have zA := A0.size; have cB := B0.cell; have fB := B0.frozen; have zB := B0.size
      have hl0 := g0.size
      clear hb
      have hcs : n = 0 ∨ n = 1 ∨ n = 2 ∨ n = 3 ∨ n = 4 := by omega
      rcases hcs with rfl | rfl | rfl | rfl | rfl
      · by_cases hc : a.k.a ≠ b.k.a
        · have hb : (a.k.a != b.k.a) = true := bne_iff_ne.2 hc
          have hst := hcc.out
          simp only [kl, List.drop, lexB] at hst
          rw [if_pos hc] at hst
          subst hst
          clear hcc hc
          go_wp2_with fail
          go_region
          all_goals
            go_wp2_with fail
            go_region
            all_goals
              go_wp2
              go_ret
              exact ⟨rfl, by (repeat' (first | (with_reducible (first | exact Below.refl _ _ | assumption | refine below_drewN ?_ _ | refine Below.drew ?_ | refine Below.alloc ?_ ?_ _ | refine Below.setCell ?_ ?_ _)) | go_size))⟩
        · have hb : (a.k.a != b.k.a) = false := by simpa using hc
          have hst := hcc.out
          have hN : Hid (lexB ((kl a.k).drop 1) ((kl b.k).drop 1) = r) := by
            simp only [kl, List.drop, lexB] at hst ⊢
            rw [if_neg hc] at hst
            exact hst
          clear hcc hst hc
          go_wp2_with fail
          go_region
          all_goals
            go_wp2
            go_roundw
            case rel => exact ⟨1, by omega, by go_num, by (repeat' (first | (with_reducible (first | exact Below.refl _ _ | assumption | refine below_drewN ?_ _ | refine Below.drew ?_ | refine Below.alloc ?_ ?_ _ | refine Below.setCell ?_ ?_ _)) | go_size)), by (repeat' (first | (with_reducible (first | assumption | exact Blk.alloc_new _ _ _ (by first | rfl | (simp; done) | omega) | apply Blk.drewN | apply Blk.drew | apply Blk.alloc_old | apply Blk.set_same | apply Blk.set_other)) | (show (_ : Nat) ≠ _; first | omega | (simp; done) | (simp; omega)) | ((simp only [List.setIfInBounds_toArray, List.set_cons_succ, List.set_cons_zero]); (with_reducible exact rfl)) | (with_reducible exact rfl) | (show (_ : Array Value) = _; exact rfl))), by (repeat' (first | (with_reducible (first | assumption | exact Blk.alloc_new _ _ _ (by first | rfl | (simp; done) | omega) | apply Blk.drewN | apply Blk.drew | apply Blk.alloc_old | apply Blk.set_same | apply Blk.set_other)) | (show (_ : Nat) ≠ _; first | omega | (simp; done) | (simp; omega)) | ((simp only [List.setIfInBounds_toArray, List.set_cons_succ, List.set_cons_zero]); (with_reducible exact rfl)) | (with_reducible exact rfl) | (show (_ : Array Value) = _; exact rfl))), hN⟩
            case measure => simp [intOf]
      · by_cases hc : a.k.b ≠ b.k.b
        · have hb : (a.k.b != b.k.b) = true := bne_iff_ne.2 hc
          have hst := hcc.out
          simp only [kl, List.drop, lexB] at hst
          rw [if_pos hc] at hst
          subst hst
          clear hcc hc
          go_wp2_with fail
          go_region
          all_goals
            go_wp2_with fail
            go_region
            all_goals
              go_wp2
              go_ret
              exact ⟨rfl, by (repeat' (first | (with_reducible (first | exact Below.refl _ _ | assumption | refine below_drewN ?_ _ | refine Below.drew ?_ | refine Below.alloc ?_ ?_ _ | refine Below.setCell ?_ ?_ _)) | go_size))⟩
        · have hb : (a.k.b != b.k.b) = false := by simpa using hc
          have hst := hcc.out
          have hN : Hid (lexB ((kl a.k).drop 2) ((kl b.k).drop 2) = r) := by
            simp only [kl, List.drop, lexB] at hst ⊢
            rw [if_neg hc] at hst
            exact hst
          clear hcc hst hc
          go_wp2_with fail
          go_region
          all_goals
            go_wp2
            go_roundw
            case rel => exact ⟨2, by omega, by go_num, by (repeat' (first | (with_reducible (first | exact Below.refl _ _ | assumption | refine below_drewN ?_ _ | refine Below.drew ?_ | refine Below.alloc ?_ ?_ _ | refine Below.setCell ?_ ?_ _)) | go_size)), by (repeat' (first | (with_reducible (first | assumption | exact Blk.alloc_new _ _ _ (by first | rfl | (simp; done) | omega) | apply Blk.drewN | apply Blk.drew | apply Blk.alloc_old | apply Blk.set_same | apply Blk.set_other)) | (show (_ : Nat) ≠ _; first | omega | (simp; done) | (simp; omega)) | ((simp only [List.setIfInBounds_toArray, List.set_cons_succ, List.set_cons_zero]); (with_reducible exact rfl)) | (with_reducible exact rfl) | (show (_ : Array Value) = _; exact rfl))), by (repeat' (first | (with_reducible (first | assumption | exact Blk.alloc_new _ _ _ (by first | rfl | (simp; done) | omega) | apply Blk.drewN | apply Blk.drew | apply Blk.alloc_old | apply Blk.set_same | apply Blk.set_other)) | (show (_ : Nat) ≠ _; first | omega | (simp; done) | (simp; omega)) | ((simp only [List.setIfInBounds_toArray, List.set_cons_succ, List.set_cons_zero]); (with_reducible exact rfl)) | (with_reducible exact rfl) | (show (_ : Array Value) = _; exact rfl))), hN⟩
            case measure => simp [intOf]
      · by_cases hc : a.k.c ≠ b.k.c
        · have hb : (a.k.c != b.k.c) = true := bne_iff_ne.2 hc
          have hst := hcc.out
          simp only [kl, List.drop, lexB] at hst
          rw [if_pos hc] at hst
          subst hst
          clear hcc hc
          go_wp2_with fail
          go_region
          all_goals
            go_wp2_with fail
            go_region
            all_goals
              go_wp2
              go_ret
              exact ⟨rfl, by (repeat' (first | (with_reducible (first | exact Below.refl _ _ | assumption | refine below_drewN ?_ _ | refine Below.drew ?_ | refine Below.alloc ?_ ?_ _ | refine Below.setCell ?_ ?_ _)) | go_size))⟩
        · have hb : (a.k.c != b.k.c) = false := by simpa using hc
          have hst := hcc.out
          have hN : Hid (lexB ((kl a.k).drop 3) ((kl b.k).drop 3) = r) := by
            simp only [kl, List.drop, lexB] at hst ⊢
            rw [if_neg hc] at hst
            exact hst
          clear hcc hst hc
          go_wp2_with fail
          go_region
          all_goals
            go_wp2
            go_roundw
            case rel => exact ⟨3, by omega, by go_num, by (repeat' (first | (with_reducible (first | exact Below.refl _ _ | assumption | refine below_drewN ?_ _ | refine Below.drew ?_ | refine Below.alloc ?_ ?_ _ | refine Below.setCell ?_ ?_ _)) | go_size)), by (repeat' (first | (with_reducible (first | assumption | exact Blk.alloc_new _ _ _ (by first | rfl | (simp; done) | omega) | apply Blk.drewN | apply Blk.drew | apply Blk.alloc_old | apply Blk.set_same | apply Blk.set_other)) | (show (_ : Nat) ≠ _; first | omega | (simp; done) | (simp; omega)) | ((simp only [List.setIfInBounds_toArray, List.set_cons_succ, List.set_cons_zero]); (with_reducible exact rfl)) | (with_reducible exact rfl) | (show (_ : Array Value) = _; exact rfl))), by (repeat' (first | (with_reducible (first | assumption | exact Blk.alloc_new _ _ _ (by first | rfl | (simp; done) | omega) | apply Blk.drewN | apply Blk.drew | apply Blk.alloc_old | apply Blk.set_same | apply Blk.set_other)) | (show (_ : Nat) ≠ _; first | omega | (simp; done) | (simp; omega)) | ((simp only [List.setIfInBounds_toArray, List.set_cons_succ, List.set_cons_zero]); (with_reducible exact rfl)) | (with_reducible exact rfl) | (show (_ : Array Value) = _; exact rfl))), hN⟩
            case measure => simp [intOf]
      · by_cases hc : a.k.d ≠ b.k.d
        · have hb : (a.k.d != b.k.d) = true := bne_iff_ne.2 hc
          have hst := hcc.out
          simp only [kl, List.drop, lexB] at hst
          rw [if_pos hc] at hst
          subst hst
          clear hcc hc
          go_wp2_with fail
          go_region
          all_goals
            go_wp2_with fail
            go_region
            all_goals
              go_wp2
              go_ret
              exact ⟨rfl, by (repeat' (first | (with_reducible (first | exact Below.refl _ _ | assumption | refine below_drewN ?_ _ | refine Below.drew ?_ | refine Below.alloc ?_ ?_ _ | refine Below.setCell ?_ ?_ _)) | go_size))⟩
        · have hb : (a.k.d != b.k.d) = false := by simpa using hc
          have hst := hcc.out
          have hN : Hid (lexB ((kl a.k).drop 4) ((kl b.k).drop 4) = r) := by
            simp only [kl, List.drop, lexB] at hst ⊢
            rw [if_neg hc] at hst
            exact hst
          clear hcc hst hc
          go_wp2_with fail
          go_region
          all_goals
            go_wp2
            go_roundw
            case rel => exact ⟨4, by omega, by go_num, by (repeat' (first | (with_reducible (first | exact Below.refl _ _ | assumption | refine below_drewN ?_ _ | refine Below.drew ?_ | refine Below.alloc ?_ ?_ _ | refine Below.setCell ?_ ?_ _)) | go_size)), by (repeat' (first | (with_reducible (first | assumption | exact Blk.alloc_new _ _ _ (by first | rfl | (simp; done) | omega) | apply Blk.drewN | apply Blk.drew | apply Blk.alloc_old | apply Blk.set_same | apply Blk.set_other)) | (show (_ : Nat) ≠ _; first | omega | (simp; done) | (simp; omega)) | ((simp only [List.setIfInBounds_toArray, List.set_cons_succ, List.set_cons_zero]); (with_reducible exact rfl)) | (with_reducible exact rfl) | (show (_ : Array Value) = _; exact rfl))), by (repeat' (first | (with_reducible (first | assumption | exact Blk.alloc_new _ _ _ (by first | rfl | (simp; done) | omega) | apply Blk.drewN | apply Blk.drew | apply Blk.alloc_old | apply Blk.set_same | apply Blk.set_other)) | (show (_ : Nat) ≠ _; first | omega | (simp; done) | (simp; omega)) | ((simp only [List.setIfInBounds_toArray, List.set_cons_succ, List.set_cons_zero]); (with_reducible exact rfl)) | (with_reducible exact rfl) | (show (_ : Array Value) = _; exact rfl))), hN⟩
            case measure => simp [intOf]
      · have hst := hcc.out
        have hres : false = r := by simpa [kl, List.drop, lexB] using hst
        clear hcc hst
        subst hres
        go_wp2
        go_ret
        exact ⟨rfl, by (repeat' (first | (with_reducible (first | exact Below.refl _ _ | assumption | refine below_drewN ?_ _ | refine Below.drew ?_ | refine Below.alloc ?_ ?_ _ | refine Below.setCell ?_ ?_ _)) | go_size))⟩
set_option maxRecDepth 100000 in
set_option maxHeartbeats 8000000 in
theorem rPlace45 (L : List FW) (f : FW) (a : Option Addr) (b off cap : Nat) (r : Int) (w : World) (ha : L ≠ [] → a = some ⟨b, off, none⟩) (hb : L ≠ [] → b < w.heap.size) (hL : AtG 6 rvs w b off L) (hn : L.length ≤ 100000) (hr : ((L.countP fun g => heav g f : Nat) : Int) = r) :
    Calls Try.prog 39 #[.slice a L.length cap, .agg #[.int .u16 f.k.a, .int .u16 f.k.b, .int .u16 f.k.c, .int .u16 f.k.d, .int .u64 f.p, .int .u64 f.b]] w fun x w' => x = .returned (.int .i64 r) ∧ Below w.heap.size w w' := by
  have HR : Hid (((0 + (L.drop 0).countP fun g => heav g f : Nat) : Int) = r) := hide (by simpa using hr)
  clear hr
  go_enter Try.func39, Try.ntmps39
  go_wp2
  go_loopw [5, 10] (fun c i wr => ∃ n m : Nat, n ≤ L.length ∧ m ≤ n ∧ i = .int .i64 n ∧ c = .int .i64 m ∧ Blk wr w.heap.size #[.int .u16 f.k.a, .int .u16 f.k.b, .int .u16 f.k.c, .int .u16 f.k.d, .int .u64 f.p, .int .u64 f.b] 90 ∧ Below w.heap.size w wr ∧ Hid (((m + (L.drop n).countP fun g => heav g f : Nat) : Int) = r)) (fun _ i _ => L.length - (intOf i).toNat)
  case atStart => exact ⟨0, 0, Nat.zero_le _, Nat.le_refl _, rfl, rfl, by (repeat' (first | (with_reducible (first | assumption | exact Blk.alloc_new _ _ _ (by first | rfl | (simp; done) | omega) | apply Blk.drewN | apply Blk.drew | apply Blk.alloc_old | apply Blk.set_same | apply Blk.set_other)) | (show (_ : Nat) ≠ _; first | omega | (simp; done) | (simp; omega)) | ((simp only [List.setIfInBounds_toArray, List.set_cons_succ, List.set_cons_zero]); (with_reducible exact rfl)) | (with_reducible exact rfl) | (show (_ : Array Value) = _; exact rfl))), by (repeat' (first | (with_reducible (first | exact Below.refl _ _ | assumption | refine below_drewN ?_ _ | refine Below.drew ?_ | refine Below.alloc ?_ ?_ _ | refine Below.setCell ?_ ?_ _)) | go_size)), HR⟩
  case round =>
    obtain ⟨n, m, hnl, hmn, rfl, rfl, A0, g0, hcc⟩ := hrel
    have cA := A0.cell; have fA := A0.frozen; have zA := A0.size
    have hl0 := g0.size
    by_cases hlt : n < L.length
    · obtain ⟨g, hgn⟩ : ∃ g, L[n]? = some g := ⟨_, List.getElem?_eq_getElem hlt⟩
      have hne : L ≠ [] := by intro e; rw [e] at hlt; simp at hlt
      have hbw := hb hne
      obtain rfl := ha hne
      have y0 : wr.cell? ⟨b, off + n * 6, none⟩ = some (.int .u16 g.k.a) := (hL.below g0 hbw) n g hgn 0 _ rfl
      have y1 : wr.cell? ⟨b, off + n * 6 + 1, none⟩ = some (.int .u16 g.k.b) := (hL.below g0 hbw) n g hgn 1 _ rfl
      have y2 : wr.cell? ⟨b, off + n * 6 + 2, none⟩ = some (.int .u16 g.k.c) := (hL.below g0 hbw) n g hgn 2 _ rfl
      have y3 : wr.cell? ⟨b, off + n * 6 + 3, none⟩ = some (.int .u16 g.k.d) := (hL.below g0 hbw) n g hgn 3 _ rfl
      have y4 : wr.cell? ⟨b, off + n * 6 + 4, none⟩ = some (.int .u64 g.p) := (hL.below g0 hbw) n g hgn 4 _ rfl
      have y5 : wr.cell? ⟨b, off + n * 6 + 5, none⟩ = some (.int .u64 g.b) := (hL.below g0 hbw) n g hgn 5 _ rfl
      have hni : (n : Int) < (L.length : Int) := by omega
      have hnb : (n : Int) ≤ 100000 := by omega
      have hmb : (m : Int) ≤ 100000 := by omega
      have hst := hcc.out
      have hdr : L.drop n = g :: L.drop (n + 1) := by
        obtain ⟨hk', e⟩ := List.getElem?_eq_some_iff.1 hgn
        rw [List.drop_eq_getElem_cons hk', e]
      rw [hdr, List.countP_cons] at hst
      obtain ⟨q, hq⟩ : ∃ q, heav g f = q := ⟨_, rfl⟩
      have KH := hide (fun v => rHeavier g f q v hq)
      rw [hq] at hst
      clear hcc hdr hq
      cases q with
      | true =>
        have hN : Hid ((((m + 1) + (L.drop (n + 1)).countP fun g => heav g f : Nat) : Int) = r) := hide (by rw [← hst]; simp; omega)
        clear hst
        go_wp2_with fail
        refine (KH.out _).mono ?_
        rintro e w1 ⟨rfl, hb1⟩
        have A1 : Blk w1 (w.heap.size) #[.int .u16 f.k.a, .int .u16 f.k.b, .int .u16 f.k.c, .int .u16 f.k.d, .int .u64 f.p, .int .u64 f.b] 90 := Blk.below (by (repeat' (first | (with_reducible (first | assumption | exact Blk.alloc_new _ _ _ (by first | rfl | (simp; done) | omega) | apply Blk.drewN | apply Blk.drew | apply Blk.alloc_old | apply Blk.set_same | apply Blk.set_other)) | (show (_ : Nat) ≠ _; first | omega | (simp; done) | (simp; omega)) | ((simp only [List.setIfInBounds_toArray, List.set_cons_succ, List.set_cons_zero]); (with_reducible exact rfl)) | (with_reducible exact rfl) | (show (_ : Array Value) = _; exact rfl)))) hb1 (by first | (simp; done) | omega | (simp; omega))
        have g1 : Below w.heap.size w w1 := by refine Below.trans ?_ (hb1.mono ?_) <;> (repeat' (first | (with_reducible (first | exact Below.refl _ _ | assumption | refine below_drewN ?_ _ | refine Below.drew ?_ | refine Below.alloc ?_ ?_ _ | refine Below.setCell ?_ ?_ _)) | go_size))
        have hz1 := hb1.size
        (try simp at hz1)
        clear hb1
        replace cA := A1.cell
        replace fA := A1.frozen
        replace zA := A1.size
        go_wp2
        go_roundw
        case rel => exact ⟨n + 1, m + 1, by omega, by omega, by go_num, by go_num, by (repeat' (first | (with_reducible (first | assumption | exact Blk.alloc_new _ _ _ (by first | rfl | (simp; done) | omega) | apply Blk.drewN | apply Blk.drew | apply Blk.alloc_old | apply Blk.set_same | apply Blk.set_other)) | (show (_ : Nat) ≠ _; first | omega | (simp; done) | (simp; omega)) | ((simp only [List.setIfInBounds_toArray, List.set_cons_succ, List.set_cons_zero]); (with_reducible exact rfl)) | (with_reducible exact rfl) | (show (_ : Array Value) = _; exact rfl))), by (repeat' (first | (with_reducible (first | exact Below.refl _ _ | assumption | refine below_drewN ?_ _ | refine Below.drew ?_ | refine Below.alloc ?_ ?_ _ | refine Below.setCell ?_ ?_ _)) | go_size)), hN⟩
        case measure => simp [intOf]; omega
      | false =>
        have hN : Hid (((m + (L.drop (n + 1)).countP fun g => heav g f : Nat) : Int) = r) := hide (by rw [← hst]; simp)
        clear hst
        go_wp2_with fail
        refine (KH.out _).mono ?_
        rintro e w1 ⟨rfl, hb1⟩
        have A1 : Blk w1 (w.heap.size) #[.int .u16 f.k.a, .int .u16 f.k.b, .int .u16 f.k.c, .int .u16 f.k.d, .int .u64 f.p, .int .u64 f.b] 90 := Blk.below (by (repeat' (first | (with_reducible (first | assumption | exact Blk.alloc_new _ _ _ (by first | rfl | (simp; done) | omega) | apply Blk.drewN | apply Blk.drew | apply Blk.alloc_old | apply Blk.set_same | apply Blk.set_other)) | (show (_ : Nat) ≠ _; first | omega | (simp; done) | (simp; omega)) | ((simp only [List.setIfInBounds_toArray, List.set_cons_succ, List.set_cons_zero]); (with_reducible exact rfl)) | (with_reducible exact rfl) | (show (_ : Array Value) = _; exact rfl)))) hb1 (by first | (simp; done) | omega | (simp; omega))
        have g1 : Below w.heap.size w w1 := by refine Below.trans ?_ (hb1.mono ?_) <;> (repeat' (first | (with_reducible (first | exact Below.refl _ _ | assumption | refine below_drewN ?_ _ | refine Below.drew ?_ | refine Below.alloc ?_ ?_ _ | refine Below.setCell ?_ ?_ _)) | go_size))
        have hz1 := hb1.size
        (try simp at hz1)
        clear hb1
        replace cA := A1.cell
        replace fA := A1.frozen
        replace zA := A1.size
        go_wp2
        go_roundw
        case rel => exact ⟨n + 1, m, by omega, by omega, by go_num, rfl, by (repeat' (first | (with_reducible (first | assumption | exact Blk.alloc_new _ _ _ (by first | rfl | (simp; done) | omega) | apply Blk.drewN | apply Blk.drew | apply Blk.alloc_old | apply Blk.set_same | apply Blk.set_other)) | (show (_ : Nat) ≠ _; first | omega | (simp; done) | (simp; omega)) | ((simp only [List.setIfInBounds_toArray, List.set_cons_succ, List.set_cons_zero]); (with_reducible exact rfl)) | (with_reducible exact rfl) | (show (_ : Array Value) = _; exact rfl))), by (repeat' (first | (with_reducible (first | exact Below.refl _ _ | assumption | refine below_drewN ?_ _ | refine Below.drew ?_ | refine Below.alloc ?_ ?_ _ | refine Below.setCell ?_ ?_ _)) | go_size)), hN⟩
        case measure => simp [intOf]; omega
    · obtain rfl : n = L.length := by omega
      have hst := hcc.out
      rw [List.drop_length] at hst
      have hres : (m : Int) = r := by simpa using hst
      clear hcc hst
      subst hres
      go_wp2
      go_ret
      exact ⟨rfl, by (repeat' (first | (with_reducible (first | exact Below.refl _ _ | assumption | refine below_drewN ?_ _ | refine Below.drew ?_ | refine Below.alloc ?_ ?_ _ | refine Below.setCell ?_ ?_ _)) | go_size))⟩
set_option maxRecDepth 100000 in
set_option maxHeartbeats 4000000 in
theorem fGetN (T M : Nat) (L : List FW) (k : K4) (w : World) (hT : Blk w T #[.map (some M)] 132) (hM : MapAt w M L) (hf : findF L k 0 = none) :
    Calls Try.prog 40 #[.pointer (some ⟨T, 0, none⟩), .agg #[.int .u16 k.a, .int .u16 k.b, .int .u16 k.c, .int .u16 k.d]] w fun e w' => e = .returned (.agg #[.int .u16 k.a, .int .u16 k.b, .int .u16 k.c, .int .u16 k.d, .int .u64 0, .int .u64 0]) ∧ Below w.heap.size w w' := by
  have cT := hT.cell; have zT := hT.size
  have zM := hM.lt
  go_enter Try.func40, Try.ntmps40
  go_upto_region 3 with (fail)
  refine wp_forget (fun v => Below w.heap.size w v ∧ Blk v T #[.map (some M)] 132 ∧ Blk v (w.heap.size) #[.int .u16 k.a, .int .u16 k.b, .int .u16 k.c, .int .u16 k.d] 48 ∧ Blk v (w.heap.size + 1) #[.int .u16 0, .int .u16 0, .int .u16 0, .int .u16 0, .int .u64 0, .int .u64 0] 88 ∧ Blk v (w.heap.size + 1 + 1) #[.int .u16 k.a, .int .u16 k.b, .int .u16 k.c, .int .u16 k.d, .int .u64 0, .int .u64 0] 88) ⟨by (repeat' (first | (with_reducible (first | exact Below.refl _ _ | assumption | refine below_drewN ?_ _ | refine Below.drew ?_ | refine Below.alloc ?_ ?_ _ | refine Below.setCell ?_ ?_ _)) | go_size)), by (repeat' (first | (with_reducible (first | assumption | exact Blk.alloc_new _ _ _ (by first | rfl | (simp; done) | omega) | apply Blk.drewN | apply Blk.drew | apply Blk.alloc_old | apply Blk.set_same | apply Blk.set_other)) | (show (_ : Nat) ≠ _; first | omega | (simp; done) | (simp; omega)) | ((simp only [List.setIfInBounds_toArray, List.set_cons_succ, List.set_cons_zero]); (with_reducible exact rfl)) | (with_reducible exact rfl) | (show (_ : Array Value) = _; exact rfl))), by (repeat' (first | (with_reducible (first | assumption | exact Blk.alloc_new _ _ _ (by first | rfl | (simp; done) | omega) | apply Blk.drewN | apply Blk.drew | apply Blk.alloc_old | apply Blk.set_same | apply Blk.set_other)) | (show (_ : Nat) ≠ _; first | omega | (simp; done) | (simp; omega)) | ((simp only [List.setIfInBounds_toArray, List.set_cons_succ, List.set_cons_zero]); (with_reducible exact rfl)) | (with_reducible exact rfl) | (show (_ : Array Value) = _; exact rfl))), by (repeat' (first | (with_reducible (first | assumption | exact Blk.alloc_new _ _ _ (by first | rfl | (simp; done) | omega) | apply Blk.drewN | apply Blk.drew | apply Blk.alloc_old | apply Blk.set_same | apply Blk.set_other)) | (show (_ : Nat) ≠ _; first | omega | (simp; done) | (simp; omega)) | ((simp only [List.setIfInBounds_toArray, List.set_cons_succ, List.set_cons_zero]); (with_reducible exact rfl)) | (with_reducible exact rfl) | (show (_ : Array Value) = _; exact rfl))), by (repeat' (first | (with_reducible (first | assumption | exact Blk.alloc_new _ _ _ (by first | rfl | (simp; done) | omega) | apply Blk.drewN | apply Blk.drew | apply Blk.alloc_old | apply Blk.set_same | apply Blk.set_other)) | (show (_ : Nat) ≠ _; first | omega | (simp; done) | (simp; omega)) | ((simp only [List.setIfInBounds_toArray, List.set_cons_succ, List.set_cons_zero]); (with_reducible exact rfl)) | (with_reducible exact rfl) | (show (_ : Array Value) = _; exact rfl)))⟩ ?_
  rintro w1 ⟨g1, T1, A1, R1, X1⟩
  have hz1 := g1.size
  replace cT := T1.cell; have fT := T1.frozen; replace zT := T1.size
  have cA := A1.cell; have fA := A1.frozen; have zA := A1.size
  have cR := R1.cell; have fR := R1.frozen; have zR := R1.size
  have cX := X1.cell; have fX := X1.frozen; have zX := X1.size
  have M1 : MapAt w1 M L := hM.of_eq (g1.block M zM)
  have zM1 := M1.lt
  have l1 : (Instr.lookup 130 (.map (some M)) (kv k) false).run Try.prog w1.drew = .ok (fv ⟨⟨0, 0, 0, 0⟩, 0, 0⟩) w1.drew := lookZ (M1.of_eq rfl) hf
  have l2 : ∀ o, (Instr.lookup 130 (.map (some M)) (kv k) false).run Try.prog (w1.alloc o).drew = .ok (fv ⟨⟨0, 0, 0, 0⟩, 0, 0⟩) (w1.alloc o).drew := fun o => lookZ (M1.of_eq (by show (w1.alloc o).heap[M]? = _; rw [hpa o zM1])) hf
  have l3 : ∀ o, (Instr.lookup 130 (.map (some M)) (kv k) false).run Try.prog (w1.drew.alloc o) = .ok (fv ⟨⟨0, 0, 0, 0⟩, 0, 0⟩) (w1.drew.alloc o) := fun o => lookZ (M1.of_eq (hpa o (by simpa using zM1))) hf
  go_region
  all_goals
    go_upto_region 4 with (fail)
    refine wp_forget (fun v => Below w.heap.size w v ∧ Blk v (w.heap.size) #[.int .u16 k.a, .int .u16 k.b, .int .u16 k.c, .int .u16 k.d] 48 ∧ Blk v (w.heap.size + 1) #[.int .u16 0, .int .u16 0, .int .u16 0, .int .u16 0, .int .u64 0, .int .u64 0] 88 ∧ Blk v (w.heap.size + 1 + 1) #[.int .u16 k.a, .int .u16 k.b, .int .u16 k.c, .int .u16 k.d, .int .u64 0, .int .u64 0] 88 ∧ Blk v (w1.heap.size) #[.int .u16 0, .int .u16 0, .int .u16 0, .int .u16 0, .int .u64 0, .int .u64 0] 88) ⟨by (repeat' (first | (with_reducible (first | exact Below.refl _ _ | assumption | refine below_drewN ?_ _ | refine Below.drew ?_ | refine Below.alloc ?_ ?_ _ | refine Below.setCell ?_ ?_ _)) | go_size)), by (repeat' (first | (with_reducible (first | assumption | exact Blk.alloc_new _ _ _ (by first | rfl | (simp; done) | omega) | apply Blk.drewN | apply Blk.drew | apply Blk.alloc_old | apply Blk.set_same | apply Blk.set_other)) | (show (_ : Nat) ≠ _; first | omega | (simp; done) | (simp; omega)) | ((simp only [List.setIfInBounds_toArray, List.set_cons_succ, List.set_cons_zero]); (with_reducible exact rfl)) | (with_reducible exact rfl) | (show (_ : Array Value) = _; exact rfl))), by (repeat' (first | (with_reducible (first | assumption | exact Blk.alloc_new _ _ _ (by first | rfl | (simp; done) | omega) | apply Blk.drewN | apply Blk.drew | apply Blk.alloc_old | apply Blk.set_same | apply Blk.set_other)) | (show (_ : Nat) ≠ _; first | omega | (simp; done) | (simp; omega)) | ((simp only [List.setIfInBounds_toArray, List.set_cons_succ, List.set_cons_zero]); (with_reducible exact rfl)) | (with_reducible exact rfl) | (show (_ : Array Value) = _; exact rfl))), by (repeat' (first | (with_reducible (first | assumption | exact Blk.alloc_new _ _ _ (by first | rfl | (simp; done) | omega) | apply Blk.drewN | apply Blk.drew | apply Blk.alloc_old | apply Blk.set_same | apply Blk.set_other)) | (show (_ : Nat) ≠ _; first | omega | (simp; done) | (simp; omega)) | ((simp only [List.setIfInBounds_toArray, List.set_cons_succ, List.set_cons_zero]); (with_reducible exact rfl)) | (with_reducible exact rfl) | (show (_ : Array Value) = _; exact rfl))), by (repeat' (first | (with_reducible (first | assumption | exact Blk.alloc_new _ _ _ (by first | rfl | (simp; done) | omega) | apply Blk.drewN | apply Blk.drew | apply Blk.alloc_old | apply Blk.set_same | apply Blk.set_other)) | (show (_ : Nat) ≠ _; first | omega | (simp; done) | (simp; omega)) | ((simp only [List.setIfInBounds_toArray, List.set_cons_succ, List.set_cons_zero]); (with_reducible exact rfl)) | (with_reducible exact rfl) | (show (_ : Array Value) = _; exact rfl)))⟩ ?_
    rintro w2 ⟨g2, A2, R2, X2, F2⟩
    have hz2 := g2.size
    replace cA := A2.cell
    replace fA := A2.frozen
    replace zA := A2.size
    replace cR := R2.cell
    replace fR := R2.frozen
    replace zR := R2.size
    replace cX := X2.cell
    replace fX := X2.frozen
    replace zX := X2.size
    have cF := F2.cell
    have fF := F2.frozen
    have zF := F2.size
    clear l1 l2 l3
    go_region
    all_goals
      go_wp2_with (first | (refine store_blk 88 (.tmp 4) (.tmp 23) (w.heap.size + 1) #[.int .u16 0, .int .u16 0, .int .u16 0, .int .u16 0, .int .u64 0, .int .u64 0] #[.int .u16 k.a, .int .u16 k.b, .int .u16 k.c, .int .u16 k.d, .int .u64 0, .int .u64 0] 88 (by rfl) (by rfl) (by rfl) (by rfl) (by (repeat' (first | (with_reducible (first | assumption | exact Blk.alloc_new _ _ _ (by first | rfl | (simp; done) | omega) | apply Blk.drewN | apply Blk.drew | apply Blk.alloc_old | apply Blk.set_same | apply Blk.set_other)) | (show (_ : Nat) ≠ _; first | omega | (simp; done) | (simp; omega)) | ((simp only [List.setIfInBounds_toArray, List.set_cons_succ, List.set_cons_zero]); (with_reducible exact rfl)) | (with_reducible exact rfl) | (show (_ : Array Value) = _; exact rfl)))) rfl (by kernel_rfl) (by simp [Value.oneCell']) ?_; intro v Bv kB kO hs; have gv : Below w.heap.size w v := kB _ _ (by first | (simp; done) | omega | (simp; omega)) (by (repeat' (first | (with_reducible (first | exact Below.refl _ _ | assumption | refine below_drewN ?_ _ | refine Below.drew ?_ | refine Below.alloc ?_ ?_ _ | refine Below.setCell ?_ ?_ _)) | go_size))); clear kB kO hs))
      refine bodyPost_ret (v := .agg #[.int .u16 k.a, .int .u16 k.b, .int .u16 k.c, .int .u16 k.d, .int .u64 0, .int .u64 0]) ?_ ?_ ?_
      · exact results_blk (w.heap.size + 1) #[.int .u16 k.a, .int .u16 k.b, .int .u16 k.c, .int .u16 k.d, .int .u64 0, .int .u64 0] 88 _ _ _ Try.results40 (by rfl) Bv Try.underlying88 rfl (by kernel_rfl)
      · rfl
      · exact ⟨rfl, gv⟩
end Go.Proofs.Ytljpiofpfankoaa
