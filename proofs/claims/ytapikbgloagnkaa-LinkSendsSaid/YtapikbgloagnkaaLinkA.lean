/-
  The statement LinkApart: packets never overlap. Conditions: none.
-/
import Derived.Test.YtapikbgloagnkaaLinkT
import Derived.Deep.Slices
namespace Go.Proofs.Ytapikbgloagnkaa
open Go.ChangeShapes Go.WideShapes Go.ChangeAt Go.RowKit
set_option linter.unusedVariables false
/-- Calls that came in: each one's cells. -/
def Calls25 (w : World) (a : Option Addr) (len : Nat) : Prop :=
  len = 0 ∨ ∃ b off, a = some ⟨b, off, none⟩ ∧ b < w.heap.size ∧ ∀ i, i < len → ∃ now id ln h0 h1 h2 h3 : Int, (0 ≤ now ∧ now ≤ 18446744073709551615) ∧
    w.cell? ⟨b, off + i * 7, none⟩ = some (.int .u64 now) ∧ w.cell? ⟨b, off + i * 7 + 1, none⟩ = some (.int .u64 id) ∧ w.cell? ⟨b, off + i * 7 + 2, none⟩ = some (.int .i64 ln) ∧ w.cell? ⟨b, off + i * 7 + 3, none⟩ = some (.int .u16 h0) ∧ w.cell? ⟨b, off + i * 7 + 4, none⟩ = some (.int .u16 h1) ∧ w.cell? ⟨b, off + i * 7 + 5, none⟩ = some (.int .u16 h2) ∧ w.cell? ⟨b, off + i * 7 + 6, none⟩ = some (.int .u16 h3)
theorem cell_lt {w : World} {b o : Nat} {v : Value} (h : w.cell? ⟨b, o, none⟩ = some v) : b < w.heap.size := by
  by_cases hb : b < w.heap.size
  · exact hb
  · simp [World.cell?, Array.getElem?_eq_none (show w.heap.size ≤ b by omega)] at h
theorem cell_add {w : World} {b off : Nat} {n j : Nat} {v : Option Value} (h : w.cell? (((⟨b, off, none⟩ : Addr).add n).add j) = v) : w.cell? ⟨b, off + n + j, none⟩ = v := by
  rw [Go.Deep.add_add] at h
  unfold Addr.add at h
  by_cases h0 : n + j = 0
  · have e1 : n = 0 := by omega
    have e2 : j = 0 := by omega
    subst e1 e2; simpa using h
  · rw [if_neg h0] at h
    rw [show off + n + j = off + (n + j) by omega]; exact h
section
variable {H : Type} {w : World} {base : Nat} {spare : Nat → Bool} {held : Bool} {enc : TypeId × Value → H}
theorem open_calls {s : Option Addr} {len cap fuel : Nat} {x : DataW H × List MemPlace} (h : DataW.trod enc Try.prog w base spare held fuel 57 [.slice s len cap] = some x) : Calls25 w s len ∧ len ≤ maxLen := by
  rcases Go.Deep.open_slice Try.underlying57 h with ⟨hcs, _⟩ | ⟨a, len', cap', m, n, D, Pl, hcs, hb, hl, hm, hmm, hx, hi⟩
  · simp at hcs
    obtain ⟨rfl, rfl, rfl⟩ := hcs
    exact ⟨.inl rfl, by unfold maxLen; omega⟩
  · simp at hcs
    obtain ⟨rfl, rfl, rfl⟩ := hcs
    refine ⟨?_, by omega⟩
    by_cases h0 : len = 0
    · exact .inl h0
    right
    have hlm : len ≤ m := by rw [hmm]; split <;> omega
    have k7 : Try.prog.cellsOf 63 = 7 := by kernel_rfl
    rw [k7] at hi
    have hall : ∀ i, i < len → ∃ now id ln h0 h1 h2 h3 : Int, (0 ≤ now ∧ now ≤ 18446744073709551615) ∧ ∀ j, j < 7 → w.cell? ((a.add (i * 7)).add j) = ([.int .u64 now, .int .u64 id, .int .i64 ln, .int .u16 h0, .int .u16 h1, .int .u16 h2, .int .u16 h3] : List Value)[j]? := by
      intro i hil
      obtain ⟨cs', hc, ht⟩ := hi i (by omega)
      obtain ⟨_, hlen, hat⟩ := World.cells?_some hc
      obtain ⟨c0, c1, c2, c3, c4, c5, c6, rfl⟩ := list7 hlen
      obtain ⟨now, id, ln, h0, h1, h2, h3, e, bn, _⟩ := open_call_cells ht
      rw [e] at hat
      exact ⟨now, id, ln, h0, h1, h2, h3, bn, hat⟩
    obtain ⟨b, off, spot⟩ := a
    obtain ⟨_, _, _, _, _, _, _, _, hc0⟩ := hall 0 (by omega)
    have hspot : spot = none := by
      have := hc0 0 (by omega)
      simpa [Addr.add] using World.cell?_spot (by simpa [Addr.add] using this)
    subst hspot
    refine ⟨b, off, rfl, cell_lt (by have := cell_add (hc0 0 (by omega)); simpa using this), fun i hil => ?_⟩
    obtain ⟨now, id, ln, h0, h1, h2, h3, bn, hc⟩ := hall i hil
    exact ⟨now, id, ln, h0, h1, h2, h3, bn, cell_add (hc 0 (by omega)), cell_add (hc 1 (by omega)), cell_add (hc 2 (by omega)), cell_add (hc 3 (by omega)), cell_add (hc 4 (by omega)), cell_add (hc 5 (by omega)), cell_add (hc 6 (by omega))⟩
end
theorem lSend_n (id len h0 h1 h2 h3 now : Int) (L : Nat) (p b k t u : Int) (w : World) (hL : Blk w L #[.int .u64 (p), .int .u64 (b), .int .u64 (k), .int .i64 (t), .int .u64 (u)] 94) (hn : 0 ≤ now ∧ now ≤ 4611686018427387904) (hl : 1 ≤ len ∧ len ≤ 16384) (hu : u ≤ now) (ht : 1 ≤ t ∧ t ≤ 65536) (g1 : 0 ≤ p ∧ p + 1 ≤ 18446744073709551615) (g2 : 0 ≤ b ∧ b + len ≤ 18446744073709551615) (y : Int) (hy : len * t = y) (g3 : 0 ≤ k ∧ k + y ≤ 18446744073709551615) (n : Int) (hnn : now + y = n) :
    Calls Try.prog 37 #[(.pointer (some ⟨L, 0, none⟩)), .int .u64 now, pkt id len h0 h1 h2 h3] w fun e w' => e = .returned (.tuple #[.int .u64 n, .int .i64 0]) ∧ Blk w' L #[.int .u64 (p + 1), .int .u64 (b + len), .int .u64 (k + y), .int .i64 (t), .int .u64 (n)] 94 ∧ KeptBut L w w' := by
  subst hnn; exact lSend_ok id len h0 h1 h2 h3 now L p b k t u w hL hn hl hu ht g1 g2 y hy g3
/-- What holds of a link behind k calls. -/
def AInv (t : Int) (k : Nat) (p b q u : Int) : Prop := 0 ≤ p ∧ p ≤ k ∧ 0 ≤ b ∧ b ≤ k * 16384 ∧ b * t = q ∧ 0 ≤ q ∧ q ≤ k * 1073741824 ∧ q ≤ u ∧ 0 ≤ u ∧ u ≤ 4611686019501129728
theorem AInv.skip {t : Int} {k : Nat} {p b q u : Int} (h : AInv t k p b q u) : AInv t (k + 1) p b q u := by unfold AInv at *; omega
theorem AInv.step {t : Int} {k : Nat} {p b q u now ln y n : Int} (h : AInv t k p b q u) (hn : now ≤ 4611686018427387904) (hu : u ≤ now) (hl : 1 ≤ ln ∧ ln ≤ 16384) (hy : ln * t = y) (hy2 : 0 ≤ y ∧ y ≤ 1073741824) (hnn : now + y = n) : AInv t (k + 1) (p + 1) (b + ln) (q + y) n := by
  unfold AInv at *
  have e : (b + ln) * t = b * t + ln * t := Int.add_mul _ _ _
  omega
def ARel (w : World) (t : Int) (len : Nat) (last i : Value) (wr : World) : Prop := ∃ (k : Nat) (p b q u : Int), k ≤ len ∧ i = .int .i64 k ∧ last = .int .u64 u ∧ AInv t k p b q u ∧ Below w.heap.size w wr ∧ Blk wr w.heap.size #[.int .u64 (p), .int .u64 (b), .int .u64 (q), .int .i64 (t), .int .u64 (u)] 94
set_option maxHeartbeats 2000000 in
theorem LinkApart_main (t : Int) (a : Option Addr) (len cap : Nat) (w : World) (ht : 1 ≤ t ∧ t ≤ 65536) (hl : len ≤ 200) (hr : Calls25 w a len) :
    Calls Try.prog 12 #[.int .i64 t, .slice a len cap] w fun e w' => e = .returned (.bool true) ∧ Below w.heap.size w w' := by
  have d1 : decide ((200 : Int) < (len : Int)) = false := decide_eq_false (by omega)
  have d2 : decide (t < 1) = false := decide_eq_false (by omega)
  have d3 : decide (65536 < t) = false := decide_eq_false (by omega)
  have Hr := hide hr; clear hr
  go_enter Try.func12, Try.ntmps12
  go_wp2_with fail
  refine (lNew t _ ht).mono ?_
  rintro e w1 ⟨rfl, b1, L1⟩
  go_wp2
  go_loopw [7, 33] (fun last i wr => ARel w t len last i wr) (fun _ i _ => len - (intOf i).toNat)
  case atStart => exact ⟨0, 0, 0, 0, 0, Nat.zero_le _, rfl, rfl, by unfold AInv; omega, b1, L1⟩
  case round =>
    obtain ⟨k, p, b, q, u, hk, rfl, rfl, hinv, g0, L0⟩ := hrel
    have zL := L0.size
    have Hinv := hide hinv
    by_cases hlt : k < len
    · obtain ⟨B, off, rfl, hB, hc⟩ : ∃ b off, a = some ⟨b, off, none⟩ ∧ b < w.heap.size ∧ _ := by
        rcases Hr.out with h | h
        · omega
        · exact h
      obtain ⟨now, id, ln, h0, h1, h2, h3, bn, e0, e1, e2, e3, e4, e5, e6⟩ := hc k hlt
      clear hc
      have cc : ∀ o, wr.cell? ⟨B, o, none⟩ = w.cell? ⟨B, o, none⟩ := fun o => g0.cell (p := ⟨B, o, none⟩) hB
      rw [← cc] at e0 e1 e2 e3 e4 e5 e6
      clear cc
      unfold AInv at hinv
      obtain ⟨i1, i2, i3, i4, i5, i6, i7, i8, i9, i10⟩ := hinv
      clear i5
      by_cases c1 : 4611686018427387904 < now
      · go_wp2_with fail
        refine (lSend_clock id ln h0 h1 h2 h3 now w.heap.size p b q t u _ (by (repeat' (first | (with_reducible assumption) | (with_reducible exact Blk.alloc_new _ _ _ (by first | rfl | (simp; done) | omega)) | (with_reducible refine Blk.drewN ?_ _) | (with_reducible refine Blk.drew ?_) | (with_reducible refine Blk.alloc_old ?_ _) | (with_reducible apply Blk.set_same) | (with_reducible refine Blk.set_other ?_ (by first | omega | (simp; done) | (simp; omega)) _) | (exact rfl)))) c1).mono ?_
        rintro e w2 ⟨rfl, b2⟩
        have L2 : Blk w2 w.heap.size #[.int .u64 (p), .int .u64 (b), .int .u64 (q), .int .i64 (t), .int .u64 (u)] 94 := Blk.below (by (repeat' (first | (with_reducible assumption) | (with_reducible exact Blk.alloc_new _ _ _ (by first | rfl | (simp; done) | omega)) | (with_reducible refine Blk.drewN ?_ _) | (with_reducible refine Blk.drew ?_) | (with_reducible refine Blk.alloc_old ?_ _) | (with_reducible apply Blk.set_same) | (with_reducible refine Blk.set_other ?_ (by first | omega | (simp; done) | (simp; omega)) _) | (exact rfl)))) b2 (by first | omega | (simp; omega))
        go_wp2
        go_roundw
        case rel => exact ⟨k + 1, p, b, q, u, by omega, by go_num, rfl, Hinv.out.skip, by refine Below.trans ?_ (b2.mono ?_) <;> (repeat' (first | (with_reducible exact Below.refl _ _) | (with_reducible assumption) | (with_reducible refine below_drewN ?_ _) | (with_reducible refine Below.drew ?_) | (with_reducible refine Below.alloc ?_ ?_ _) | (with_reducible refine Below.setCell ?_ ?_ _) | go_size)), L2⟩
        case measure => simp [intOf]; omega
      by_cases c2 : 1 ≤ ln ∧ ln ≤ 16384
      case neg =>
        go_wp2_with fail
        refine (lSend_len id ln h0 h1 h2 h3 now w.heap.size p b q t u _ (by (repeat' (first | (with_reducible assumption) | (with_reducible exact Blk.alloc_new _ _ _ (by first | rfl | (simp; done) | omega)) | (with_reducible refine Blk.drewN ?_ _) | (with_reducible refine Blk.drew ?_) | (with_reducible refine Blk.alloc_old ?_ _) | (with_reducible apply Blk.set_same) | (with_reducible refine Blk.set_other ?_ (by first | omega | (simp; done) | (simp; omega)) _) | (exact rfl)))) (by omega) c2).mono ?_
        rintro e w2 ⟨rfl, b2⟩
        have L2 : Blk w2 w.heap.size #[.int .u64 (p), .int .u64 (b), .int .u64 (q), .int .i64 (t), .int .u64 (u)] 94 := Blk.below (by (repeat' (first | (with_reducible assumption) | (with_reducible exact Blk.alloc_new _ _ _ (by first | rfl | (simp; done) | omega)) | (with_reducible refine Blk.drewN ?_ _) | (with_reducible refine Blk.drew ?_) | (with_reducible refine Blk.alloc_old ?_ _) | (with_reducible apply Blk.set_same) | (with_reducible refine Blk.set_other ?_ (by first | omega | (simp; done) | (simp; omega)) _) | (exact rfl)))) b2 (by first | omega | (simp; omega))
        go_wp2
        go_roundw
        case rel => exact ⟨k + 1, p, b, q, u, by omega, by go_num, rfl, Hinv.out.skip, by refine Below.trans ?_ (b2.mono ?_) <;> (repeat' (first | (with_reducible exact Below.refl _ _) | (with_reducible assumption) | (with_reducible refine below_drewN ?_ _) | (with_reducible refine Below.drew ?_) | (with_reducible refine Below.alloc ?_ ?_ _) | (with_reducible refine Below.setCell ?_ ?_ _) | go_size)), L2⟩
        case measure => simp [intOf]; omega
      by_cases c3 : now < u
      · skip
        go_wp2_with fail
        refine (lSend_busy id ln h0 h1 h2 h3 now w.heap.size p b q t u _ (by (repeat' (first | (with_reducible assumption) | (with_reducible exact Blk.alloc_new _ _ _ (by first | rfl | (simp; done) | omega)) | (with_reducible refine Blk.drewN ?_ _) | (with_reducible refine Blk.drew ?_) | (with_reducible refine Blk.alloc_old ?_ _) | (with_reducible apply Blk.set_same) | (with_reducible refine Blk.set_other ?_ (by first | omega | (simp; done) | (simp; omega)) _) | (exact rfl)))) (by omega) c2 c3).mono ?_
        rintro e w2 ⟨rfl, b2⟩
        have L2 : Blk w2 w.heap.size #[.int .u64 (p), .int .u64 (b), .int .u64 (q), .int .i64 (t), .int .u64 (u)] 94 := Blk.below (by (repeat' (first | (with_reducible assumption) | (with_reducible exact Blk.alloc_new _ _ _ (by first | rfl | (simp; done) | omega)) | (with_reducible refine Blk.drewN ?_ _) | (with_reducible refine Blk.drew ?_) | (with_reducible refine Blk.alloc_old ?_ _) | (with_reducible apply Blk.set_same) | (with_reducible refine Blk.set_other ?_ (by first | omega | (simp; done) | (simp; omega)) _) | (exact rfl)))) b2 (by first | omega | (simp; omega))
        go_wp2
        go_roundw
        case rel => exact ⟨k + 1, p, b, q, u, by omega, by go_num, rfl, Hinv.out.skip, by refine Below.trans ?_ (b2.mono ?_) <;> (repeat' (first | (with_reducible exact Below.refl _ _) | (with_reducible assumption) | (with_reducible refine below_drewN ?_ _) | (with_reducible refine Below.drew ?_) | (with_reducible refine Below.alloc ?_ ?_ _) | (with_reducible refine Below.setCell ?_ ?_ _) | go_size)), L2⟩
        case measure => simp [intOf]; omega
      obtain ⟨y, hy⟩ : ∃ y, ln * t = y := ⟨_, rfl⟩
      have hy2 : 1 ≤ y ∧ y ≤ 1073741824 := by
        have a1 := Int.mul_le_mul c2.1 ht.1 (by omega) (by omega : (0 : Int) ≤ ln)
        have a2 := Int.mul_le_mul c2.2 ht.2 (by omega) (by omega : (0 : Int) ≤ 16384)
        omega
      obtain ⟨n, hn⟩ : ∃ n, now + y = n := ⟨_, rfl⟩
      have hnb : now < n ∧ n ≤ 4611686019501129728 := by omega
      have Hy := hide hy; have Hn := hide hn
      clear hy hn
      have t1 : decide (now < u) = false := decide_eq_false c3
      have t2 : decide (n ≤ now) = false := decide_eq_false (by omega)
      go_wp2_with fail
      refine (lSend_n id ln h0 h1 h2 h3 now w.heap.size p b q t u _ (by (repeat' (first | (with_reducible assumption) | (with_reducible exact Blk.alloc_new _ _ _ (by first | rfl | (simp; done) | omega)) | (with_reducible refine Blk.drewN ?_ _) | (with_reducible refine Blk.drew ?_) | (with_reducible refine Blk.alloc_old ?_ _) | (with_reducible apply Blk.set_same) | (with_reducible refine Blk.set_other ?_ (by first | omega | (simp; done) | (simp; omega)) _) | (exact rfl)))) (by omega) c2 (by omega) ht (by omega) (by omega) y Hy.out (by omega) n Hn.out).mono ?_
      rintro e w2 ⟨rfl, L2, K2⟩
      have C2 : Blk w2 wr.heap.size #[.int .u64 now, .int .u64 id, .int .i64 ln, .int .u16 h0, .int .u16 h1, .int .u16 h2, .int .u16 h3] 63 := Blk.kept (by (repeat' (first | (with_reducible assumption) | (with_reducible exact Blk.alloc_new _ _ _ (by first | rfl | (simp; done) | omega)) | (with_reducible refine Blk.drewN ?_ _) | (with_reducible refine Blk.drew ?_) | (with_reducible refine Blk.alloc_old ?_ _) | (with_reducible apply Blk.set_same) | (with_reducible refine Blk.set_other ?_ (by first | omega | (simp; done) | (simp; omega)) _) | (exact rfl)))) K2 (by omega)
      have cC := C2.cell; have zC := C2.size; have zL2 := L2.size
      go_wp2_with fail
      refine (lFree w.heap.size (p + 1) (b + ln) (q + y) t n _ L2 (n - 1) false (decide_eq_false (by omega))).mono ?_
      rintro e w3 ⟨rfl, rfl⟩
      go_wp2_with fail
      refine (lFree w.heap.size (p + 1) (b + ln) (q + y) t n _ L2 n true (decide_eq_true (by omega))).mono ?_
      rintro e w3 ⟨rfl, rfl⟩
      go_wp2
      go_roundw
      case rel => exact ⟨k + 1, p + 1, b + ln, q + y, n, by omega, by go_num, rfl, Hinv.out.step (by omega) (by omega) c2 Hy.out (by omega) Hn.out, by refine Below.trans ?_ K2.1 <;> (repeat' (first | (with_reducible exact Below.refl _ _) | (with_reducible assumption) | (with_reducible refine below_drewN ?_ _) | (with_reducible refine Below.drew ?_) | (with_reducible refine Below.alloc ?_ ?_ _) | (with_reducible refine Below.setCell ?_ ?_ _) | go_size)), L2⟩
      case measure => simp [intOf]; omega
    · have hbt : b * t = q := by unfold AInv at hinv; exact hinv.2.2.2.2.1
      unfold AInv at hinv
      obtain ⟨i1, i2, i3, i4, i5, i6, i7, i8, i9, i10⟩ := hinv
      clear i5
      have hrng : 0 ≤ b * t ∧ b * t ≤ 18446744073709551615 := by rw [hbt]; omega
      have hb1 : (q == b * t) = true := by rw [hbt]; simp
      have hb2 : decide (q ≤ u) = true := decide_eq_true i8
      have hwt : IntKind.u64.wrap t = t := IntWalk.u64_in _ ⟨by omega, by omega⟩
      clear hbt
      go_wp2_with fail
      refine (lSent w.heap.size p b q t u _ L0).mono ?_
      rintro e w2 ⟨rfl, b2⟩
      have L2 := L0.below b2 zL
      have zL2 := L2.size
      have g2 : Below w.heap.size w w2 := g0.trans (b2.mono (by omega))
      go_wp2_with fail
      refine (lUntil w.heap.size p b q t u _ L2).mono ?_
      rintro e w3 ⟨rfl, rfl⟩
      go_wp2_with fail
      refine (lBusy w.heap.size p b q t u _ L2).mono ?_
      rintro e w3 ⟨rfl, rfl⟩
      go_wp2_with fail
      refine (lBusy w.heap.size p b q t u _ L2).mono ?_
      rintro e w3 ⟨rfl, rfl⟩
      go_wp2_with fail
      refine (ten_true _).mono ?_
      rintro e w4 ⟨rfl, b4⟩
      go_wp2
      go_ret
      exact ⟨rfl, g2.trans (b4.mono (by omega))⟩
theorem LinkApart_out (t : Int) (a : Option Addr) (len cap : Nat) (w : World) (h : 200 < len ∨ t < 1 ∨ 65536 < t) :
    Calls Try.prog 12 #[.int .i64 t, .slice a len cap] w fun e w' => e = .returned (.bool true) ∧ Below w.heap.size w w' := by
  by_cases a1 : 200 < len
  · have d1 : decide ((200 : Int) < (len : Int)) = true := decide_eq_true (by omega)
    go_enter Try.func12, Try.ntmps12
    go_wp2_with fail
    refine (ten_true _).mono ?_
    rintro e w1 ⟨rfl, hb1⟩
    have g1 : Below w.heap.size w w1 := by refine Below.trans ?_ (hb1.mono ?_) <;> (repeat' (first | (with_reducible exact Below.refl _ _) | (with_reducible assumption) | (with_reducible refine below_drewN ?_ _) | (with_reducible refine Below.drew ?_) | (with_reducible refine Below.alloc ?_ ?_ _) | (with_reducible refine Below.setCell ?_ ?_ _) | go_size))
    have hz1 := hb1.size
    (try simp at hz1)
    clear hb1
    go_wp2
    go_ret
    exact ⟨rfl, by (repeat' (first | (with_reducible exact Below.refl _ _) | (with_reducible assumption) | (with_reducible refine below_drewN ?_ _) | (with_reducible refine Below.drew ?_) | (with_reducible refine Below.alloc ?_ ?_ _) | (with_reducible refine Below.setCell ?_ ?_ _) | go_size))⟩
  have d1 : decide ((200 : Int) < (len : Int)) = false := decide_eq_false (by omega)
  by_cases a2 : t < 1
  · have d2 : decide (t < 1) = true := decide_eq_true a2
    go_enter Try.func12, Try.ntmps12
    go_wp2_with fail
    refine (ten_true _).mono ?_
    rintro e w1 ⟨rfl, hb1⟩
    have g1 : Below w.heap.size w w1 := by refine Below.trans ?_ (hb1.mono ?_) <;> (repeat' (first | (with_reducible exact Below.refl _ _) | (with_reducible assumption) | (with_reducible refine below_drewN ?_ _) | (with_reducible refine Below.drew ?_) | (with_reducible refine Below.alloc ?_ ?_ _) | (with_reducible refine Below.setCell ?_ ?_ _) | go_size))
    have hz1 := hb1.size
    (try simp at hz1)
    clear hb1
    go_wp2
    go_ret
    exact ⟨rfl, by (repeat' (first | (with_reducible exact Below.refl _ _) | (with_reducible assumption) | (with_reducible refine below_drewN ?_ _) | (with_reducible refine Below.drew ?_) | (with_reducible refine Below.alloc ?_ ?_ _) | (with_reducible refine Below.setCell ?_ ?_ _) | go_size))⟩
  have d2 : decide (t < 1) = false := decide_eq_false a2
  have d3 : decide (65536 < t) = true := decide_eq_true (by omega)
  go_enter Try.func12, Try.ntmps12
  go_wp2_with fail
  refine (ten_true _).mono ?_
  rintro e w1 ⟨rfl, hb1⟩
  have g1 : Below w.heap.size w w1 := by refine Below.trans ?_ (hb1.mono ?_) <;> (repeat' (first | (with_reducible exact Below.refl _ _) | (with_reducible assumption) | (with_reducible refine below_drewN ?_ _) | (with_reducible refine Below.drew ?_) | (with_reducible refine Below.alloc ?_ ?_ _) | (with_reducible refine Below.setCell ?_ ?_ _) | go_size))
  have hz1 := hb1.size
  (try simp at hz1)
  clear hb1
  go_wp2
  go_ret
  exact ⟨rfl, by (repeat' (first | (with_reducible exact Below.refl _ _) | (with_reducible assumption) | (with_reducible refine below_drewN ?_ _) | (with_reducible refine Below.drew ?_) | (with_reducible refine Below.alloc ?_ ?_ _) | (with_reducible refine Below.setCell ?_ ?_ _) | go_size))⟩
theorem LinkApart_walk (t : Int) (ht : -9223372036854775808 ≤ t ∧ t ≤ 9223372036854775807) (a : Option Addr) (len cap : Nat) (w : World) (h : Calls25 w a len ∧ len ≤ maxLen) :
    Calls Try.prog 12 #[.int .i64 t, .slice a len cap] w fun e w' => e = .returned (.bool true) ∧ Below w.heap.size w w' := by
  by_cases hh : 200 < len ∨ t < 1 ∨ 65536 < t
  · exact LinkApart_out t a len cap w hh
  · exact LinkApart_main t a len cap w (by omega) (by omega) h.1
namespace linkApartDone
theorem own : ownKnob Try.prog.godebug = none := by kernel_rfl
theorem laidOut : laidOutB Try.prog = true := by kernel_rfl
set_option maxRecDepth 100000 in
theorem lifted (os : Os) (started : os.Started) (H : Type) (enc : TypeId × Value → H) :
    ReturnsInHanded {} Try.checked os 12 .any (Rows.linkApartSpec.pre6 enc Try.prog Try.f12 Rows.linkApartRow.domain false) (Rows.linkApartSpec.post enc Try.prog Try.f12 false true false false) := by
  refine returnsInHanded_of_change (C := Try.checked) own started (by kernel_rfl) Try.func12
    (ChangeSpec.witness6 (enc := enc) (C := Try.checked) false ⟨#[], #[.int .i64 0, .slice none 0 0], []⟩ 8 (by kernel_rfl) (by kernel_rfl) (by kernel_rfl) (by kernel_rfl)) ?_
  intro W base args ds gs before hval0 hW hcnd _
  have hval : ∀ (j : Nat) t v, Try.f12.params[j]? = some t → args[j]? = some v → Value.okWide Try.prog W .any base t v := hval0
  have hW' := hW
  obtain ⟨p, q, hA0, hV, rfl, hfz, hnd⟩ := hW
  have hA : DataW.TrodAll enc Try.prog W 0 (fun _ => true) true Try.f12.params.toList args.toList ds p := hA0
  rw [Try.params12] at hA hval
  obtain ⟨v0, vs0, d0, ds0, p0, q0, hargs, rfl, rfl, h0, r0⟩ := trodAll_cons hA
  obtain ⟨v1, vs1, d1, ds1, p1, q1, rfl, rfl, rfl, h1, r1⟩ := trodAll_cons r0
  obtain ⟨rfl, rfl, rfl⟩ := trodAll_nil r1
  obtain rfl : args = #[v0, v1] := by cases args; simp_all
  obtain ⟨rfl, rfl⟩ := trodVars_none hV
  obtain ⟨a0, rfl, rfl, rfl, wf0⟩ := open_int Try.underlying3 (hval 0 3 v0 rfl rfl) h0
  have b0 := bounds_i64 wf0
  obtain ⟨s1, len1, cap1, rfl⟩ := okWide_slice Try.underlying57 (hval 1 57 v1 rfl rfl)
  have k1 := h1
  have lt1 : ∀ x ∈ p1, x.block < W.heap.size := by obtain ⟨m, hm⟩ := k1; exact DataW.trod_lt m _ _ _ hm
  have w1 : Calls25 W s1 len1 ∧ len1 ≤ maxLen := by obtain ⟨fuel, hf⟩ := h1; exact open_calls (by simpa [Value.cells] using hf)
  clear hA0 hval0
  refine (LinkApart_walk a0 b0 s1 len1 cap1 W w1).mono fun e W' ⟨he, bel⟩ => ?_
  subst he
  exact ⟨_, rfl, _, _, _, [], _, [], hW', trodAll_mk1 (shut_bool Try.underlying4 _), (trodAll_cons_mk (shut_int Try.underlying3 wf0) (trodAll_cons_mk (Below.trod laidOut (by kernel_rfl) (of_decide_eq_true (by kernel_rfl)) k1 bel lt1) trodAll_mk0)), rfl, bel.frame _, fun h => by cases h⟩
theorem over : Rows.linkApartRow.holds Try.pinned (OpenSpec.ofChange Rows.linkApartSpec) :=
  OpenClaim.holds_of_wide 12 Try.f12 rfl rfl rfl rfl rfl rfl rfl ⟨rfl, rfl, rfl, rfl, rfl⟩ rfl rfl rfl rfl rfl (by kernel_rfl) Try.func12 (by kernel_rfl)
    (of_decide_eq_true (by kernel_rfl)) (by unfold Func.isWrapper; first | (rw [if_pos (by decide +kernel)]; kernel_rfl) | (rw [if_neg (by decide +kernel)]; exact ⟨rfl, rfl⟩))
    (fun os started H enc _ => lifted os started H enc)
end linkApartDone
theorem LinkApart_holds : Rows.LinkApartSaid := linkApartDone.over

end Go.Proofs.Ytapikbgloagnkaa
