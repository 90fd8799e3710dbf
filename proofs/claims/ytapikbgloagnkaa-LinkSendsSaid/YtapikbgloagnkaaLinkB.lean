/-
  The statement LinkSends: what any calls make of a link of any speed, one behind the other, and tell. Conditions: none.
-/
import Derived.Test.YtapikbgloagnkaaLinkS
import Derived.Deep.RegionHeldLaw
import Derived.OwnWalk
import Derived.Deep.CutRange
import Derived.Deep.DeepCutAuto
namespace Go.Proofs.Ytapikbgloagnkaa
open Go.ChangeShapes Go.WideShapes Go.ChangeAt Go.RowKit
set_option linter.unusedVariables false
theorem info_sent : (Try.prog.info? 68).map (fun i => (i.zero, i.size, i.bytes)) = some (some (.agg #[.int .u64 0, .int .u64 0, .int .i64 0]), 3, 24) := by kernel_rfl
theorem Holds.kept {w w' : World} {base L : Nat} {v : Value} {ss : List SP} (h : Holds w base v ss) (hk : KeptBut L w w') (hL : L < base) : Holds w' base v ss :=
  World.ownsRow.kept (row := some L) h ⟨hk.1.os, hk.1.tape, hk.1.output, hk.1.size, fun k hlt hne => hk.2 k hlt fun e => hne (by rw [e])⟩ (by
    cases ho : v.ownBlock with
    | none => exact .inl rfl
    | some k => have := (World.ownsRow.lt h k ho).1; right; intro e; simp at e; omega)
theorem Blk.grown {w w' : World} {row : Option Nat} {B : Nat} {cs : Array Value} {t : TypeId} (h : Blk w B cs t) (hg : w.grownBy w' row) (hne : some B ≠ row) : Blk w' B cs t := by
  have hs := h.size
  unfold Blk at *; rw [hg.block B hs hne]; exact h
theorem one3 (a b c : Int) : ∀ u ∈ ([.int .u64 a, .int .u64 b, .int .i64 c] : List Value), u.oneCell' = true := by
  intro u hu; simp at hu; rcases hu with rfl | rfl | rfl <;> rfl
theorem own_below {w w' : World} {base : Nat} {v : Value} {n : Nat} {xs : List Value} (h : w.ownsRow base 68 3 v n xs) (hb : Below w.heap.size w w') : w'.ownsRow base 68 3 v n xs :=
  World.ownsRow.kept (row := none) h ⟨hb.os, hb.tape, hb.output, hb.size, fun k hk _ => hb.block k hk⟩ (by
    cases ho : v.ownBlock with
    | none => exact .inl rfl
    | some k => right; simp)
theorem below_grown {w0 w w' : World} {row : Option Nat} {K : Nat} (h : Below K w0 w) (hg : w.grownBy w' row) (hK : K ≤ w.heap.size) (hr : ∀ k, row = some k → K ≤ k) : Below K w0 w' :=
  h.trans ⟨hg.os, hg.tape, hg.output, hg.size, fun k hk => hg.block k (by omega) fun e => by have := hr k e.symm; omega⟩
/-- What holds of a link, and of what the reference holds, behind k calls. -/
def SInv (ss : List SP) (n : Nat) (b q u : Int) (k : Nat) : Prop := ss.length = n ∧ sumB ss = b ∧ sumT ss = q ∧ untilL ss = u ∧ (∀ s ∈ ss, s.ok) ∧ n ≤ k
def SRel (w : World) (t : Int) (len : Nat) (v i : Value) (wr : World) : Prop := ∃ (k n : Nat) (b q u : Int) (a : Option Addr) (cap : Nat) (ss : List SP), k ≤ len ∧ i = .int .i64 k ∧ v = .slice a n cap ∧ SInv ss n b q u k ∧ Below w.heap.size w wr ∧ Blk wr w.heap.size #[.int .u64 ((n : Int)), .int .u64 (b), .int .u64 (q), .int .i64 (t), .int .u64 (u)] 94 ∧ Holds wr (w.heap.size + 1) (.slice a n cap) ss
theorem SInv.skip {ss : List SP} {n : Nat} {b q u : Int} {k : Nat} (h : SInv ss n b q u k) : SInv ss n b q u (k + 1) := by
  obtain ⟨h1, h2, h3, h4, h5, h6⟩ := h; exact ⟨h1, h2, h3, h4, h5, by omega⟩
theorem SInv.step {ss : List SP} {n : Nat} {b q u : Int} {k : Nat} (h : SInv ss n b q u k) (s : SP) (hs : s.ok) : SInv (ss ++ [s]) (n + 1) (b + s.ln) (q + (s.dn - s.at_)) s.dn (k + 1) := by
  obtain ⟨h1, h2, h3, h4, h5, h6⟩ := h
  refine ⟨by simp [h1], by rw [sumB_snoc, h2], by rw [sumT_snoc, h3], by simp [untilL], ?_, by omega⟩
  intro x hx
  rcases List.mem_append.1 hx with hx | hx
  · exact h5 x hx
  · simp at hx; subst hx; exact hs
theorem SInv.rng {ss : List SP} {n : Nat} {b q u : Int} {k : Nat} (h : SInv ss n b q u k) : 0 ≤ b ∧ b ≤ n * 16384 ∧ 0 ≤ q ∧ q ≤ n * 1073741824 ∧ 0 ≤ u ∧ u ≤ 4611686019501129728 ∧ n ≤ k := by
  obtain ⟨h1, h2, h3, h4, h5, h6⟩ := h
  have r1 := sumB_rng h5; have r2 := sumT_rng h5
  rw [h1] at r1 r2; rw [h2] at r1; rw [h3] at r2
  refine ⟨r1.1, r1.2, r2.1, r2.2, ?_, ?_, h6⟩
  all_goals
    rw [← h4]; unfold untilL
    cases hl : ss.getLast? with
    | none => simp
    | some s => have := h5 s (List.mem_of_getLast? hl); unfold SP.ok at this; simp; omega
set_option maxHeartbeats 4000000 in
set_option maxRecDepth 100000 in
theorem LinkSends_main (t : Int) (a0 : Option Addr) (len cap0 : Nat) (tm : Int) (w : World) (ht : 1 ≤ t ∧ t ≤ 65536) (hl : len ≤ 200) (hr : Calls25 w a0 len) :
    Calls Try.prog 11 #[.int .i64 t, .slice a0 len cap0, .int .u64 tm] w fun e w' => e = .returned (.bool true) ∧ Below w.heap.size w w' := by
  have d1 : decide ((200 : Int) < (len : Int)) = false := decide_eq_false (by omega)
  have d2 : decide (t < 1) = false := decide_eq_false (by omega)
  have d3 : decide (65536 < t) = false := decide_eq_false (by omega)
  have Hr := hide hr; clear hr
  obtain ⟨io, hio, hz0, hz1, hz2⟩ := info_parts info_sent
  have Hio := hide hio; have Hz0 := hide hz0; have Hz1 := hide hz1; have Hz2 := hide hz2
  clear hio hz0 hz1 hz2
  go_enter Try.func11, Try.ntmps11
  go_wp2_with fail
  refine (lNew t _ ht).mono ?_
  rintro e w1 ⟨rfl, b1, L1⟩
  go_wp2
  go_loopw [9, 43] (fun v i wr => SRel w t len v i wr) (fun _ i _ => len - (intOf i).toNat)
  case atStart => exact ⟨0, 0, 0, 0, 0, none, 0, [], Nat.zero_le _, rfl, rfl, ⟨rfl, rfl, rfl, rfl, by simp, Nat.le_refl _⟩, b1, L1, ⟨rfl, .inl ⟨rfl, rfl⟩⟩⟩
  case round =>
    obtain ⟨k, n, b, q, u, a, cap, ss, hk, rfl, rfl, hinv, g0, L0, H0⟩ := hrel
    have zL := L0.size
    have Hinv := hide hinv
    obtain ⟨i1, i2, i3, i4, i5, i6, i7⟩ := hinv.rng
    have Hok := hide hinv.2.2.2.2.1
    have Hn := hide hinv.1
    have EB := hide hinv.2.1; have EQ := hide hinv.2.2.1; have EU := hide hinv.2.2.2.1
    clear hinv
    have l200 : ss.length ≤ 200 ∨ len ≤ k := by rw [Hn.out]; omega
    have hwn : IntKind.u64.wrap (n : Int) = (n : Int) := IntWalk.u64_in _ ⟨by omega, by omega⟩
    by_cases hlt : k < len
    · have Hl200 := hide (show ss.length ≤ 200 by omega)
      clear l200
      obtain ⟨B, off, rfl, hB, hc⟩ : ∃ b off, a0 = some ⟨b, off, none⟩ ∧ b < w.heap.size ∧ _ := by
        rcases Hr.out with h | h
        · omega
        · exact h
      obtain ⟨now, id, ln, h0, h1, h2, h3, bn, e0, e1, e2, e3, e4, e5, e6⟩ := hc k hlt
      clear hc
      have cc : ∀ o, wr.cell? ⟨B, o, none⟩ = w.cell? ⟨B, o, none⟩ := fun o => g0.cell (p := ⟨B, o, none⟩) hB
      rw [← cc] at e0 e1 e2 e3 e4 e5 e6
      clear cc
      by_cases c1 : 4611686018427387904 < now
      · skip
        go_wp2_with fail
        refine (rSend_clock _ id ln h0 h1 h2 h3 now _ c1).mono ?_
        rintro e w4 ⟨rfl, b4⟩
        have L4 : Blk w4 w.heap.size #[.int .u64 ((n : Int)), .int .u64 (b), .int .u64 (q), .int .i64 (t), .int .u64 (u)] 94 := Blk.below (by (repeat' (first | (with_reducible assumption) | (with_reducible exact Blk.alloc_new _ _ _ (by first | rfl | (simp; done) | omega)) | (with_reducible refine Blk.drewN ?_ _) | (with_reducible refine Blk.drew ?_) | (with_reducible refine Blk.alloc_old ?_ _) | (with_reducible apply Blk.set_same) | (with_reducible refine Blk.set_other ?_ (by first | omega | (simp; done) | (simp; omega)) _) | (exact rfl)))) b4 (by first | (simp; done) | omega | (simp; omega))
        have C4 : Blk w4 wr.heap.size #[.int .u64 now, .int .u64 id, .int .i64 ln, .int .u16 h0, .int .u16 h1, .int .u16 h2, .int .u16 h3] 63 := Blk.below (by (repeat' (first | (with_reducible assumption) | (with_reducible exact Blk.alloc_new _ _ _ (by first | rfl | (simp; done) | omega)) | (with_reducible refine Blk.drewN ?_ _) | (with_reducible refine Blk.drew ?_) | (with_reducible refine Blk.alloc_old ?_ _) | (with_reducible apply Blk.set_same) | (with_reducible refine Blk.set_other ?_ (by first | omega | (simp; done) | (simp; omega)) _) | (exact rfl)))) b4 (by first | (simp; done) | omega | (simp; omega))
        have g4 : Below w.heap.size w w4 := by refine Below.trans ?_ (b4.mono ?_) <;> (repeat' (first | (with_reducible exact Below.refl _ _) | (with_reducible assumption) | (with_reducible refine below_drewN ?_ _) | (with_reducible refine Below.drew ?_) | (with_reducible refine Below.alloc ?_ ?_ _) | (with_reducible refine Below.setCell ?_ ?_ _) | go_size))
        have H4 : Holds w4 (w.heap.size + 1) (.slice a n cap) ss := H0.below (by refine Below.trans ?_ (b4.mono ?_) <;> (repeat' (first | (with_reducible exact Below.refl _ _) | (with_reducible assumption) | (with_reducible refine below_drewN ?_ _) | (with_reducible refine Below.drew ?_) | (with_reducible refine Below.alloc ?_ ?_ _) | (with_reducible refine Below.setCell ?_ ?_ _) | go_size)))
        have cC := C4.cell; have zC := C4.size; have zL4 := L4.size
        clear b4
        go_wp2_with fail
        refine (lSend_clock id ln h0 h1 h2 h3 now w.heap.size (n : Int) b q t u _ L4 c1).mono ?_
        rintro e w5 ⟨rfl, b5⟩
        have L5 := L4.below b5 L4.size
        have H5 := H4.below b5
        have g5 := g4.trans (b5.mono g4.size)
        clear b5 cC
        go_wp2_with fail
        refine (lSent w.heap.size ((n : Int)) (b) (q) t (u) _ L5).mono ?_
        rintro e w6 ⟨rfl, b6⟩
        have L6 := L5.below b6 L5.size
        have H6 := H5.below b6
        have g6 := g5.trans (b6.mono g5.size)
        clear b6
        go_wp2_with fail
        refine (rSumB _ _ _ _ H6 Hok.out Hl200.out (b) EB.out).mono ?_
        rintro e w7 ⟨rfl, b7⟩
        have L7 := L6.below b7 L6.size
        have H7 := H6.below b7
        have g7 := g6.trans (b7.mono g6.size)
        clear b7
        go_wp2_with fail
        refine (lBusy w.heap.size ((n : Int)) (b) (q) t (u) _ L7).mono ?_
        rintro e w7' ⟨rfl, rfl⟩
        go_wp2_with fail
        refine (rSumT _ _ _ _ H7 Hok.out Hl200.out (q) EQ.out).mono ?_
        rintro e w8 ⟨rfl, b8⟩
        have L8 := L7.below b8 L7.size
        have H8 := H7.below b8
        have g8 := g7.trans (b8.mono g7.size)
        clear b8
        go_wp2_with fail
        refine (lUntil w.heap.size ((n : Int)) (b) (q) t (u) _ L8).mono ?_
        rintro e w8' ⟨rfl, rfl⟩
        go_wp2_with fail
        refine (rUntil _ _ _ _ H8 (u) EU.out).mono ?_
        rintro e w8' ⟨rfl, rfl⟩
        go_wp2_with fail
        refine (lFree w.heap.size ((n : Int)) (b) (q) t (u) _ L8 tm (decide ((u) ≤ tm)) rfl).mono ?_
        rintro e w8' ⟨rfl, rfl⟩
        go_wp2_with fail
        refine (rUntil _ _ _ _ H8 (u) EU.out).mono ?_
        rintro e w8' ⟨rfl, rfl⟩
        go_wp2
        go_roundw
        case rel => exact ⟨k + 1, n, b, q, u, a, cap, ss, by omega, by go_num, rfl, Hinv.out.skip, g8, L8, H8⟩
        case measure => simp [intOf]; omega
      by_cases c2 : 1 ≤ ln ∧ ln ≤ 16384
      case neg =>
        go_wp2_with fail
        refine (rSend_len _ id ln h0 h1 h2 h3 now _ (by omega) c2).mono ?_
        rintro e w4 ⟨rfl, b4⟩
        have L4 : Blk w4 w.heap.size #[.int .u64 ((n : Int)), .int .u64 (b), .int .u64 (q), .int .i64 (t), .int .u64 (u)] 94 := Blk.below (by (repeat' (first | (with_reducible assumption) | (with_reducible exact Blk.alloc_new _ _ _ (by first | rfl | (simp; done) | omega)) | (with_reducible refine Blk.drewN ?_ _) | (with_reducible refine Blk.drew ?_) | (with_reducible refine Blk.alloc_old ?_ _) | (with_reducible apply Blk.set_same) | (with_reducible refine Blk.set_other ?_ (by first | omega | (simp; done) | (simp; omega)) _) | (exact rfl)))) b4 (by first | (simp; done) | omega | (simp; omega))
        have C4 : Blk w4 wr.heap.size #[.int .u64 now, .int .u64 id, .int .i64 ln, .int .u16 h0, .int .u16 h1, .int .u16 h2, .int .u16 h3] 63 := Blk.below (by (repeat' (first | (with_reducible assumption) | (with_reducible exact Blk.alloc_new _ _ _ (by first | rfl | (simp; done) | omega)) | (with_reducible refine Blk.drewN ?_ _) | (with_reducible refine Blk.drew ?_) | (with_reducible refine Blk.alloc_old ?_ _) | (with_reducible apply Blk.set_same) | (with_reducible refine Blk.set_other ?_ (by first | omega | (simp; done) | (simp; omega)) _) | (exact rfl)))) b4 (by first | (simp; done) | omega | (simp; omega))
        have g4 : Below w.heap.size w w4 := by refine Below.trans ?_ (b4.mono ?_) <;> (repeat' (first | (with_reducible exact Below.refl _ _) | (with_reducible assumption) | (with_reducible refine below_drewN ?_ _) | (with_reducible refine Below.drew ?_) | (with_reducible refine Below.alloc ?_ ?_ _) | (with_reducible refine Below.setCell ?_ ?_ _) | go_size))
        have H4 : Holds w4 (w.heap.size + 1) (.slice a n cap) ss := H0.below (by refine Below.trans ?_ (b4.mono ?_) <;> (repeat' (first | (with_reducible exact Below.refl _ _) | (with_reducible assumption) | (with_reducible refine below_drewN ?_ _) | (with_reducible refine Below.drew ?_) | (with_reducible refine Below.alloc ?_ ?_ _) | (with_reducible refine Below.setCell ?_ ?_ _) | go_size)))
        have cC := C4.cell; have zC := C4.size; have zL4 := L4.size
        clear b4
        go_wp2_with fail
        refine (lSend_len id ln h0 h1 h2 h3 now w.heap.size (n : Int) b q t u _ L4 (by omega) c2).mono ?_
        rintro e w5 ⟨rfl, b5⟩
        have L5 := L4.below b5 L4.size
        have H5 := H4.below b5
        have g5 := g4.trans (b5.mono g4.size)
        clear b5 cC
        go_wp2_with fail
        refine (lSent w.heap.size ((n : Int)) (b) (q) t (u) _ L5).mono ?_
        rintro e w6 ⟨rfl, b6⟩
        have L6 := L5.below b6 L5.size
        have H6 := H5.below b6
        have g6 := g5.trans (b6.mono g5.size)
        clear b6
        go_wp2_with fail
        refine (rSumB _ _ _ _ H6 Hok.out Hl200.out (b) EB.out).mono ?_
        rintro e w7 ⟨rfl, b7⟩
        have L7 := L6.below b7 L6.size
        have H7 := H6.below b7
        have g7 := g6.trans (b7.mono g6.size)
        clear b7
        go_wp2_with fail
        refine (lBusy w.heap.size ((n : Int)) (b) (q) t (u) _ L7).mono ?_
        rintro e w7' ⟨rfl, rfl⟩
        go_wp2_with fail
        refine (rSumT _ _ _ _ H7 Hok.out Hl200.out (q) EQ.out).mono ?_
        rintro e w8 ⟨rfl, b8⟩
        have L8 := L7.below b8 L7.size
        have H8 := H7.below b8
        have g8 := g7.trans (b8.mono g7.size)
        clear b8
        go_wp2_with fail
        refine (lUntil w.heap.size ((n : Int)) (b) (q) t (u) _ L8).mono ?_
        rintro e w8' ⟨rfl, rfl⟩
        go_wp2_with fail
        refine (rUntil _ _ _ _ H8 (u) EU.out).mono ?_
        rintro e w8' ⟨rfl, rfl⟩
        go_wp2_with fail
        refine (lFree w.heap.size ((n : Int)) (b) (q) t (u) _ L8 tm (decide ((u) ≤ tm)) rfl).mono ?_
        rintro e w8' ⟨rfl, rfl⟩
        go_wp2_with fail
        refine (rUntil _ _ _ _ H8 (u) EU.out).mono ?_
        rintro e w8' ⟨rfl, rfl⟩
        go_wp2
        go_roundw
        case rel => exact ⟨k + 1, n, b, q, u, a, cap, ss, by omega, by go_num, rfl, Hinv.out.skip, g8, L8, H8⟩
        case measure => simp [intOf]; omega
      by_cases c3 : now < u
      · skip
        go_wp2_with fail
        refine (rSend_u _ ss (w.heap.size + 1) u id ln h0 h1 h2 h3 now _ (H0.below (by (repeat' (first | (with_reducible exact Below.refl _ _) | (with_reducible assumption) | (with_reducible refine below_drewN ?_ _) | (with_reducible refine Below.drew ?_) | (with_reducible refine Below.alloc ?_ ?_ _) | (with_reducible refine Below.setCell ?_ ?_ _) | go_size)))) EU.out (by omega) c2 24 (if_pos c3)).mono ?_
        rintro e w4 ⟨rfl, b4⟩
        have L4 : Blk w4 w.heap.size #[.int .u64 ((n : Int)), .int .u64 (b), .int .u64 (q), .int .i64 (t), .int .u64 (u)] 94 := Blk.below (by (repeat' (first | (with_reducible assumption) | (with_reducible exact Blk.alloc_new _ _ _ (by first | rfl | (simp; done) | omega)) | (with_reducible refine Blk.drewN ?_ _) | (with_reducible refine Blk.drew ?_) | (with_reducible refine Blk.alloc_old ?_ _) | (with_reducible apply Blk.set_same) | (with_reducible refine Blk.set_other ?_ (by first | omega | (simp; done) | (simp; omega)) _) | (exact rfl)))) b4 (by first | (simp; done) | omega | (simp; omega))
        have C4 : Blk w4 wr.heap.size #[.int .u64 now, .int .u64 id, .int .i64 ln, .int .u16 h0, .int .u16 h1, .int .u16 h2, .int .u16 h3] 63 := Blk.below (by (repeat' (first | (with_reducible assumption) | (with_reducible exact Blk.alloc_new _ _ _ (by first | rfl | (simp; done) | omega)) | (with_reducible refine Blk.drewN ?_ _) | (with_reducible refine Blk.drew ?_) | (with_reducible refine Blk.alloc_old ?_ _) | (with_reducible apply Blk.set_same) | (with_reducible refine Blk.set_other ?_ (by first | omega | (simp; done) | (simp; omega)) _) | (exact rfl)))) b4 (by first | (simp; done) | omega | (simp; omega))
        have g4 : Below w.heap.size w w4 := by refine Below.trans ?_ (b4.mono ?_) <;> (repeat' (first | (with_reducible exact Below.refl _ _) | (with_reducible assumption) | (with_reducible refine below_drewN ?_ _) | (with_reducible refine Below.drew ?_) | (with_reducible refine Below.alloc ?_ ?_ _) | (with_reducible refine Below.setCell ?_ ?_ _) | go_size))
        have H4 : Holds w4 (w.heap.size + 1) (.slice a n cap) ss := H0.below (by refine Below.trans ?_ (b4.mono ?_) <;> (repeat' (first | (with_reducible exact Below.refl _ _) | (with_reducible assumption) | (with_reducible refine below_drewN ?_ _) | (with_reducible refine Below.drew ?_) | (with_reducible refine Below.alloc ?_ ?_ _) | (with_reducible refine Below.setCell ?_ ?_ _) | go_size)))
        have cC := C4.cell; have zC := C4.size; have zL4 := L4.size
        clear b4
        go_wp2_with fail
        refine (lSend_busy id ln h0 h1 h2 h3 now w.heap.size (n : Int) b q t u _ L4 (by omega) c2 c3).mono ?_
        rintro e w5 ⟨rfl, b5⟩
        have L5 := L4.below b5 L4.size
        have H5 := H4.below b5
        have g5 := g4.trans (b5.mono g4.size)
        clear b5 cC
        go_wp2_with fail
        refine (lSent w.heap.size ((n : Int)) (b) (q) t (u) _ L5).mono ?_
        rintro e w6 ⟨rfl, b6⟩
        have L6 := L5.below b6 L5.size
        have H6 := H5.below b6
        have g6 := g5.trans (b6.mono g5.size)
        clear b6
        go_wp2_with fail
        refine (rSumB _ _ _ _ H6 Hok.out Hl200.out (b) EB.out).mono ?_
        rintro e w7 ⟨rfl, b7⟩
        have L7 := L6.below b7 L6.size
        have H7 := H6.below b7
        have g7 := g6.trans (b7.mono g6.size)
        clear b7
        go_wp2_with fail
        refine (lBusy w.heap.size ((n : Int)) (b) (q) t (u) _ L7).mono ?_
        rintro e w7' ⟨rfl, rfl⟩
        go_wp2_with fail
        refine (rSumT _ _ _ _ H7 Hok.out Hl200.out (q) EQ.out).mono ?_
        rintro e w8 ⟨rfl, b8⟩
        have L8 := L7.below b8 L7.size
        have H8 := H7.below b8
        have g8 := g7.trans (b8.mono g7.size)
        clear b8
        go_wp2_with fail
        refine (lUntil w.heap.size ((n : Int)) (b) (q) t (u) _ L8).mono ?_
        rintro e w8' ⟨rfl, rfl⟩
        go_wp2_with fail
        refine (rUntil _ _ _ _ H8 (u) EU.out).mono ?_
        rintro e w8' ⟨rfl, rfl⟩
        go_wp2_with fail
        refine (lFree w.heap.size ((n : Int)) (b) (q) t (u) _ L8 tm (decide ((u) ≤ tm)) rfl).mono ?_
        rintro e w8' ⟨rfl, rfl⟩
        go_wp2_with fail
        refine (rUntil _ _ _ _ H8 (u) EU.out).mono ?_
        rintro e w8' ⟨rfl, rfl⟩
        go_wp2
        go_roundw
        case rel => exact ⟨k + 1, n, b, q, u, a, cap, ss, by omega, by go_num, rfl, Hinv.out.skip, g8, L8, H8⟩
        case measure => simp [intOf]; omega
      · skip
        obtain ⟨y, hy⟩ : ∃ y, ln * t = y := ⟨_, rfl⟩
        have hy2 : 1 ≤ y ∧ y ≤ 1073741824 := by
          have a1 := Int.mul_le_mul c2.1 ht.1 (by omega) (by omega : (0 : Int) ≤ ln)
          have a2 := Int.mul_le_mul c2.2 ht.2 (by omega) (by omega : (0 : Int) ≤ 16384)
          omega
        obtain ⟨nn, hnn⟩ : ∃ n, now + y = n := ⟨_, rfl⟩
        have hnb : now < nn ∧ nn ≤ 4611686019501129728 ∧ nn - now = y := by omega
        have hok : SP.ok ⟨now, nn, ln⟩ := ⟨bn.1, by show now ≤ nn; omega, by show nn ≤ _; omega, by show nn - now ≤ _; omega, c2.1, c2.2⟩
        have hst := Hinv.out.step ⟨now, nn, ln⟩ hok
        have hst' : SInv (ss ++ [⟨now, nn, ln⟩]) (n + 1) (b + ln) (q + y) nn (k + 1) := by rw [← hnb.2.2]; exact hst
        clear hst hok
        have Hst := hide hst'; clear hst'
        have hwnn : IntKind.u64.wrap (now + y) = nn := by rw [IntWalk.u64_in _ ⟨by omega, by omega⟩]; exact hnn
        have Hnn := hide hnn; have Hy := hide hy
        have Hy2 := hide (show t * ln = y by rw [Int.mul_comm]; exact hy)
        clear hnn hy
        have hmx : n + 1 ≤ maxLen := by unfold maxLen; omega
        have hby : (n + 1) * 24 ≤ 140737488355328 := by omega
        have hwn1 : IntKind.u64.wrap ((n + 1 : Nat) : Int) = ((n + 1 : Nat) : Int) := IntWalk.u64_in _ ⟨by omega, by omega⟩
        go_wp2_with fail
        refine (rSend_u _ ss (w.heap.size + 1) u id ln h0 h1 h2 h3 now _ (H0.below (by (repeat' (first | (with_reducible exact Below.refl _ _) | (with_reducible assumption) | (with_reducible refine below_drewN ?_ _) | (with_reducible refine Below.drew ?_) | (with_reducible refine Below.alloc ?_ ?_ _) | (with_reducible refine Below.setCell ?_ ?_ _) | go_size)))) EU.out (by omega) c2 0 (if_neg (show ¬ now < u by omega))).mono ?_
        rintro e w4 ⟨rfl, b4⟩
        have L4 : Blk w4 w.heap.size #[.int .u64 ((n : Int)), .int .u64 (b), .int .u64 (q), .int .i64 (t), .int .u64 (u)] 94 := Blk.below (by (repeat' (first | (with_reducible assumption) | (with_reducible exact Blk.alloc_new _ _ _ (by first | rfl | (simp; done) | omega)) | (with_reducible refine Blk.drewN ?_ _) | (with_reducible refine Blk.drew ?_) | (with_reducible refine Blk.alloc_old ?_ _) | (with_reducible apply Blk.set_same) | (with_reducible refine Blk.set_other ?_ (by first | omega | (simp; done) | (simp; omega)) _) | (exact rfl)))) b4 (by first | (simp; done) | omega | (simp; omega))
        have C4 : Blk w4 wr.heap.size #[.int .u64 now, .int .u64 id, .int .i64 ln, .int .u16 h0, .int .u16 h1, .int .u16 h2, .int .u16 h3] 63 := Blk.below (by (repeat' (first | (with_reducible assumption) | (with_reducible exact Blk.alloc_new _ _ _ (by first | rfl | (simp; done) | omega)) | (with_reducible refine Blk.drewN ?_ _) | (with_reducible refine Blk.drew ?_) | (with_reducible refine Blk.alloc_old ?_ _) | (with_reducible apply Blk.set_same) | (with_reducible refine Blk.set_other ?_ (by first | omega | (simp; done) | (simp; omega)) _) | (exact rfl)))) b4 (by first | (simp; done) | omega | (simp; omega))
        have g4 : Below w.heap.size w w4 := by refine Below.trans ?_ (b4.mono ?_) <;> (repeat' (first | (with_reducible exact Below.refl _ _) | (with_reducible assumption) | (with_reducible refine below_drewN ?_ _) | (with_reducible refine Below.drew ?_) | (with_reducible refine Below.alloc ?_ ?_ _) | (with_reducible refine Below.setCell ?_ ?_ _) | go_size))
        have H4 : Holds w4 (w.heap.size + 1) (.slice a n cap) ss := H0.below (by refine Below.trans ?_ (b4.mono ?_) <;> (repeat' (first | (with_reducible exact Below.refl _ _) | (with_reducible assumption) | (with_reducible refine below_drewN ?_ _) | (with_reducible refine Below.drew ?_) | (with_reducible refine Below.alloc ?_ ?_ _) | (with_reducible refine Below.setCell ?_ ?_ _) | go_size)))
        have hCne : some wr.heap.size ≠ (Value.slice a n cap).ownBlock := by
          intro e; have := (World.ownsRow.lt H0 wr.heap.size e.symm).2; omega
        have hLne : some w.heap.size ≠ (Value.slice a n cap).ownBlock := by
          intro e; have := (World.ownsRow.lt H0 w.heap.size e.symm).1; omega
        have hbase : ∀ k, (Value.slice a n cap).ownBlock = some k → w.heap.size ≤ k := by
          intro k e; have := (World.ownsRow.lt H0 k e).1; omega
        have cC := C4.cell; have zC := C4.size; have zL4 := L4.size
        clear b4
        go_wp2_with fail
        refine (lSend_n id ln h0 h1 h2 h3 now w.heap.size (n : Int) b q t u _ L4 (by omega) c2 (by omega) ht (by omega) (by omega) y Hy.out (by omega) nn Hnn.out).mono ?_
        rintro e w5 ⟨rfl, L5', K5⟩
        have L5 : Blk w5 w.heap.size #[.int .u64 (((n + 1 : Nat) : Int)), .int .u64 (b + ln), .int .u64 (q + y), .int .i64 (t), .int .u64 (nn)] 94 := L5'
        have C5 : Blk w5 wr.heap.size #[.int .u64 now, .int .u64 id, .int .i64 ln, .int .u16 h0, .int .u16 h1, .int .u16 h2, .int .u16 h3] 63 := Blk.kept C4 K5 (by omega)
        have H5 : w5.ownsRow (w.heap.size + 1) 68 3 (.slice a n cap) n (flat ss) := by have h := H4.kept K5 (by omega); unfold Holds at h; rw [Hn.out] at h; exact h
        have g5 : Below w.heap.size w w5 := g4.trans K5.1
        have zC5 := C5.size; have zL5 := L5.size; have sz5 := K5.1.size
        clear cC zC zL4 L4 C4 L5' K5
        have cC := C5.cell
        go_upto_region 15 with (fail)
        go_cut [7, 8, 9, 11, 12, 13, 14, 41, 42, 43] (fun p7 p8 p9 p11 p12 p13 p14 p41 p42 p43 wx => ∃ (a' : Option Addr) (cap' : Nat), p7 = .pointer (some ⟨w.heap.size, 0, none⟩) ∧ p8 = .int .i64 0 ∧ p9 = .slice a' (n + 1) cap' ∧ p11 = .pointer (some ⟨wr.heap.size, 0, none⟩) ∧ p12 = .int .i64 0 ∧ p13 = .int .u64 nn ∧ p14 = .int .i64 0 ∧ p41 = .slice (some ⟨B, off, none⟩) len cap0 ∧ p42 = .int .i64 len ∧ p43 = .int .i64 k ∧ Below w.heap.size w wx ∧ Blk wx w.heap.size #[.int .u64 (((n + 1 : Nat) : Int)), .int .u64 (b + ln), .int .u64 (q + y), .int .i64 (t), .int .u64 (nn)] 94 ∧ Holds wx (w.heap.size + 1) (.slice a' (n + 1) cap') (ss ++ [⟨now, nn, ln⟩]))
        case first =>
          go_region_held_law (fun x => Blk x wr.heap.size #[.int .u64 now, .int .u64 id, .int .i64 ln, .int .u16 h0, .int .u16 h1, .int .u16 h2, .int .u16 h3] 63 ∧ (∀ i, x.cell? ⟨wr.heap.size, i, none⟩ = #[.int .u64 now, .int .u64 id, .int .i64 ln, .int .u16 h0, .int .u16 h1, .int .u16 h2, .int .u16 h3][i]?))
            (first | (refine (fun h => And.intro h (Blk.cell h)) ?_; first | (with_reducible assumption) | ((repeat' (first | (with_reducible assumption) | (with_reducible exact Blk.alloc_new _ _ _ (by first | rfl | (simp; done) | omega)) | (with_reducible refine Blk.drewN ?_ _) | (with_reducible refine Blk.drew ?_) | (with_reducible refine Blk.alloc_old ?_ _) | (with_reducible apply Blk.set_same) | (with_reducible refine Blk.set_other ?_ (by first | omega | (simp; done) | (simp; omega)) _) | (exact rfl))); done) | (refine Blk.grown ?_ hgrow hCne; first | (with_reducible assumption) | ((repeat' (first | (with_reducible assumption) | (with_reducible exact Blk.alloc_new _ _ _ (by first | rfl | (simp; done) | omega)) | (with_reducible refine Blk.drewN ?_ _) | (with_reducible refine Blk.drew ?_) | (with_reducible refine Blk.alloc_old ?_ _) | (with_reducible apply Blk.set_same) | (with_reducible refine Blk.set_other ?_ (by first | omega | (simp; done) | (simp; omega)) _) | (exact rfl))); done))))
            (first
              | (go_simp; go_at_call 38; (with_reducible refine (rTicks t ln _ ht c2 y Hy2.out).mono ?_); rintro e w' ⟨rfl, rfl⟩)
              | (refine step_append_lies _ (by rfl) (.tmp 67) (.tmp 82) 61 (by rfl) (w.heap.size + 1) 68 io (.agg #[.int .u64 0, .int .u64 0, .int .i64 0]) 3 24 Try.underlying61 Hio.out Hz0.out Hz1.out Hz2.out (by rfl) (by omega) (.slice a n cap) n (flat ss) (by rfl) (own_below H5 (by (repeat' (first | (with_reducible exact Below.refl _ _) | (with_reducible assumption) | (with_reducible refine below_drewN ?_ _) | (with_reducible refine Below.drew ?_) | (with_reducible refine Below.alloc ?_ ?_ _) | (with_reducible refine Below.setCell ?_ ?_ _) | go_size)))) ⟨w5.heap.size, 0, none⟩ 1 1 [.int .u64 now, .int .u64 nn, .int .i64 ln] (by rfl) (by rfl) (World.news_of_block (show Blk _ w5.heap.size (#[.int .u64 now, .int .u64 nn, .int .i64 ln]) 68 from (by (repeat' (first | (with_reducible assumption) | (with_reducible exact Blk.alloc_new _ _ _ (by first | rfl | (simp; done) | omega)) | (with_reducible refine Blk.drewN ?_ _) | (with_reducible refine Blk.drew ?_) | (with_reducible refine Blk.alloc_old ?_ _) | (with_reducible apply Blk.set_same) | (with_reducible refine Blk.set_other ?_ (by first | omega | (simp; done) | (simp; omega)) _) | (exact rfl)))))) (one3 now nn ln) (by omega) hmx hby (by first | omega | (simp; omega)) _ rfl ?_; intro g cap' w9 hown hgrow hat hlt9; change (_ : Act → World → Prop) (Act.put _ (some 83) _) _))
          all_goals
            go_wp2_with fail
            go_meet
            exact ⟨_, _, rfl, rfl, rfl, rfl, rfl, rfl, rfl, rfl, rfl, rfl, below_grown (by (repeat' (first | (with_reducible exact Below.refl _ _) | (with_reducible assumption) | (with_reducible refine below_drewN ?_ _) | (with_reducible refine Below.drew ?_) | (with_reducible refine Below.alloc ?_ ?_ _) | (with_reducible refine Below.setCell ?_ ?_ _) | go_size))) hgrow (by first | omega | (simp; omega)) hbase, Blk.grown (by (repeat' (first | (with_reducible assumption) | (with_reducible exact Blk.alloc_new _ _ _ (by first | rfl | (simp; done) | omega)) | (with_reducible refine Blk.drewN ?_ _) | (with_reducible refine Blk.drew ?_) | (with_reducible refine Blk.alloc_old ?_ _) | (with_reducible apply Blk.set_same) | (with_reducible refine Blk.set_other ?_ (by first | omega | (simp; done) | (simp; omega)) _) | (exact rfl)))) hgrow hLne, (show World.ownsRow _ _ _ _ _ _ _ by rw [List.length_append, Hn.out, flat_app]; exact hown)⟩
        case rest =>
          clear cC H5 L5 C5 g5 zC5 zL5 sz5 EB EQ EU
          obtain ⟨a', cap', rfl, rfl, rfl, rfl, rfl, rfl, rfl, rfl, rfl, rfl, g5, L5, H5⟩ := hcut
          have EB := hide Hst.out.2.1; have EQ := hide Hst.out.2.2.1; have EU := hide Hst.out.2.2.2.1
          have hl2 := Hst.out.1
          have hl3 := hide (show (ss ++ [(⟨now, nn, ln⟩ : SP)]).length ≤ 200 by rw [hl2]; omega)
          have hok2 := hide Hst.out.2.2.2.2.1
          clear hl2
          generalize ss ++ [(⟨now, nn, ln⟩ : SP)] = ss' at *
          generalize n + 1 = m at *
          have zL5 := L5.size
          go_wp2_with fail
          refine (rUntil _ _ _ _ H5 nn EU.out).mono ?_
          rintro e w5' ⟨rfl, rfl⟩
          go_wp2_with fail
          refine (lSent w.heap.size ((m : Int)) (b + ln) (q + y) t (nn) _ L5).mono ?_
          rintro e w6 ⟨rfl, b6⟩
          have L6 := L5.below b6 L5.size
          have H6 := H5.below b6
          have g6 := g5.trans (b6.mono g5.size)
          clear b6
          go_wp2_with fail
          refine (rSumB _ _ _ _ H6 hok2.out hl3.out (b + ln) EB.out).mono ?_
          rintro e w7 ⟨rfl, b7⟩
          have L7 := L6.below b7 L6.size
          have H7 := H6.below b7
          have g7 := g6.trans (b7.mono g6.size)
          clear b7
          go_wp2_with fail
          refine (lBusy w.heap.size ((m : Int)) (b + ln) (q + y) t (nn) _ L7).mono ?_
          rintro e w7' ⟨rfl, rfl⟩
          go_wp2_with fail
          refine (rSumT _ _ _ _ H7 hok2.out hl3.out (q + y) EQ.out).mono ?_
          rintro e w8 ⟨rfl, b8⟩
          have L8 := L7.below b8 L7.size
          have H8 := H7.below b8
          have g8 := g7.trans (b8.mono g7.size)
          clear b8
          go_wp2_with fail
          refine (lUntil w.heap.size ((m : Int)) (b + ln) (q + y) t (nn) _ L8).mono ?_
          rintro e w8' ⟨rfl, rfl⟩
          go_wp2_with fail
          refine (rUntil _ _ _ _ H8 (nn) EU.out).mono ?_
          rintro e w8' ⟨rfl, rfl⟩
          go_wp2_with fail
          refine (lFree w.heap.size ((m : Int)) (b + ln) (q + y) t (nn) _ L8 tm (decide ((nn) ≤ tm)) rfl).mono ?_
          rintro e w8' ⟨rfl, rfl⟩
          go_wp2_with fail
          refine (rUntil _ _ _ _ H8 (nn) EU.out).mono ?_
          rintro e w8' ⟨rfl, rfl⟩
          go_wp2
          go_roundw
          case rel => exact ⟨k + 1, m, b + ln, q + y, nn, a', cap', ss', by omega, by go_num, rfl, Hst.out, g8, L8, H8⟩
          case measure => simp [intOf]; omega
    · clear l200
      go_wp2_with fail
      refine (ten_true _).mono ?_
      rintro e w2 ⟨rfl, b2⟩
      go_wp2
      go_ret
      exact ⟨rfl, g0.trans (b2.mono g0.size)⟩
theorem LinkSends_out (t : Int) (a : Option Addr) (len cap : Nat) (tm : Int) (w : World) (h : 200 < len ∨ t < 1 ∨ 65536 < t) :
    Calls Try.prog 11 #[.int .i64 t, .slice a len cap, .int .u64 tm] w fun e w' => e = .returned (.bool true) ∧ Below w.heap.size w w' := by
  by_cases a1 : 200 < len
  · have d1 : decide ((200 : Int) < (len : Int)) = true := decide_eq_true (by omega)
    go_enter Try.func11, Try.ntmps11
    go_wp2_with fail
    refine (ten_true _).mono ?_
    rintro e w1 ⟨rfl, hb1⟩
    have g1 : Below w.heap.size w w1 := by refine Below.trans ?_ (hb1.mono ?_) <;> (repeat' (first | (with_reducible exact Below.refl _ _) | (with_reducible assumption) | (with_reducible refine below_drewN ?_ _) | (with_reducible refine Below.drew ?_) | (with_reducible refine Below.alloc ?_ ?_ _) | (with_reducible refine Below.setCell ?_ ?_ _) | go_size))
    have hz1 := hb1.size
    (try simp at hz1)
    clear hb1
    go_wp2
    go_ret
    exact ⟨rfl, by (repeat' (first | (with_reducible exact Below.refl _ _) | (with_reducible assumption) | (with_reducible refine below_drewN ?_ _) | (with_reducible refine Below.drew ?_) | (with_reducible refine Below.alloc ?_ ?_ _) | (with_reducible refine Below.setCell ?_ ?_ _) | go_size))⟩
  have d1 : decide ((200 : Int) < (len : Int)) = false := decide_eq_false (by omega)
  by_cases a2 : t < 1
  · have d2 : decide (t < 1) = true := decide_eq_true a2
    go_enter Try.func11, Try.ntmps11
    go_wp2_with fail
    refine (lNew_lt t _ a2).mono ?_
    rintro e u1 ⟨rfl, rfl⟩
    go_wp2_with fail
    refine (ten_true _).mono ?_
    rintro e w2 ⟨rfl, hb2⟩
    have g2 : Below w.heap.size w w2 := by refine Below.trans ?_ (hb2.mono ?_) <;> (repeat' (first | (with_reducible exact Below.refl _ _) | (with_reducible assumption) | (with_reducible refine below_drewN ?_ _) | (with_reducible refine Below.drew ?_) | (with_reducible refine Below.alloc ?_ ?_ _) | (with_reducible refine Below.setCell ?_ ?_ _) | go_size))
    have hz2 := hb2.size
    (try simp at hz2)
    clear hb2
    go_wp2
    go_ret
    exact ⟨rfl, by (repeat' (first | (with_reducible exact Below.refl _ _) | (with_reducible assumption) | (with_reducible refine below_drewN ?_ _) | (with_reducible refine Below.drew ?_) | (with_reducible refine Below.alloc ?_ ?_ _) | (with_reducible refine Below.setCell ?_ ?_ _) | go_size))⟩
  have d2 : decide (t < 1) = false := decide_eq_false a2
  have d3 : decide (65536 < t) = true := decide_eq_true (by omega)
  go_enter Try.func11, Try.ntmps11
  go_wp2_with fail
  refine (lNew_gt t _ (by omega)).mono ?_
  rintro e u1 ⟨rfl, rfl⟩
  go_wp2_with fail
  refine (ten_true _).mono ?_
  rintro e w2 ⟨rfl, hb2⟩
  have g2 : Below w.heap.size w w2 := by refine Below.trans ?_ (hb2.mono ?_) <;> (repeat' (first | (with_reducible exact Below.refl _ _) | (with_reducible assumption) | (with_reducible refine below_drewN ?_ _) | (with_reducible refine Below.drew ?_) | (with_reducible refine Below.alloc ?_ ?_ _) | (with_reducible refine Below.setCell ?_ ?_ _) | go_size))
  have hz2 := hb2.size
  (try simp at hz2)
  clear hb2
  go_wp2
  go_ret
  exact ⟨rfl, by (repeat' (first | (with_reducible exact Below.refl _ _) | (with_reducible assumption) | (with_reducible refine below_drewN ?_ _) | (with_reducible refine Below.drew ?_) | (with_reducible refine Below.alloc ?_ ?_ _) | (with_reducible refine Below.setCell ?_ ?_ _) | go_size))⟩
theorem LinkSends_walk (t : Int) (ht : -9223372036854775808 ≤ t ∧ t ≤ 9223372036854775807) (a : Option Addr) (len cap : Nat) (tm : Int) (htm : 0 ≤ tm ∧ tm ≤ 18446744073709551615) (w : World) (h : Calls25 w a len ∧ len ≤ maxLen) :
    Calls Try.prog 11 #[.int .i64 t, .slice a len cap, .int .u64 tm] w fun e w' => e = .returned (.bool true) ∧ Below w.heap.size w w' := by
  by_cases hh : 200 < len ∨ t < 1 ∨ 65536 < t
  · exact LinkSends_out t a len cap tm w hh
  · exact LinkSends_main t a len cap tm w (by omega) (by omega) h.1
namespace linkSendsDone
theorem own : ownKnob Try.prog.godebug = none := by kernel_rfl
theorem laidOut : laidOutB Try.prog = true := by kernel_rfl
set_option maxRecDepth 100000 in
theorem lifted (os : Os) (started : os.Started) (H : Type) (enc : TypeId × Value → H) :
    ReturnsInHanded {} Try.checked os 11 .any (Rows.linkSendsSpec.pre6 enc Try.prog Try.f11 Rows.linkSendsRow.domain false) (Rows.linkSendsSpec.post enc Try.prog Try.f11 false true false false) := by
  refine returnsInHanded_of_change (C := Try.checked) own started (by kernel_rfl) Try.func11
    (ChangeSpec.witness6 (enc := enc) (C := Try.checked) false ⟨#[], #[.int .i64 0, .slice none 0 0, .int .u64 0], []⟩ 8 (by kernel_rfl) (by kernel_rfl) (by kernel_rfl) (by kernel_rfl)) ?_
  intro W base args ds gs before hval0 hW hcnd _
  have hval : ∀ (j : Nat) t v, Try.f11.params[j]? = some t → args[j]? = some v → Value.okWide Try.prog W .any base t v := hval0
  have hW' := hW
  obtain ⟨p, q, hA0, hV, rfl, hfz, hnd⟩ := hW
  have hA : DataW.TrodAll enc Try.prog W 0 (fun _ => true) true Try.f11.params.toList args.toList ds p := hA0
  rw [Try.params11] at hA hval
  obtain ⟨v0, vs0, d0, ds0, p0, q0, hargs, rfl, rfl, h0, r0⟩ := trodAll_cons hA
  obtain ⟨v1, vs1, d1, ds1, p1, q1, rfl, rfl, rfl, h1, r1⟩ := trodAll_cons r0
  obtain ⟨v2, vs2, d2, ds2, p2, q2, rfl, rfl, rfl, h2, r2⟩ := trodAll_cons r1
  obtain ⟨rfl, rfl, rfl⟩ := trodAll_nil r2
  obtain rfl : args = #[v0, v1, v2] := by cases args; simp_all
  obtain ⟨rfl, rfl⟩ := trodVars_none hV
  obtain ⟨a0, rfl, rfl, rfl, wf0⟩ := open_int Try.underlying3 (hval 0 3 v0 rfl rfl) h0
  have b0 := bounds_i64 wf0
  obtain ⟨s1, len1, cap1, rfl⟩ := okWide_slice Try.underlying57 (hval 1 57 v1 rfl rfl)
  have k1 := h1
  have lt1 : ∀ x ∈ p1, x.block < W.heap.size := by obtain ⟨m, hm⟩ := k1; exact DataW.trod_lt m _ _ _ hm
  have w1 : Calls25 W s1 len1 ∧ len1 ≤ maxLen := by obtain ⟨fuel, hf⟩ := h1; exact open_calls (by simpa [Value.cells] using hf)
  obtain ⟨a2, rfl, rfl, rfl, wf2⟩ := open_int Try.underlying22 (hval 2 22 v2 rfl rfl) h2
  have b2 := bounds_u64 wf2
  clear hA0 hval0
  refine (LinkSends_walk a0 b0 s1 len1 cap1 a2 b2 W w1).mono fun e W' ⟨he, bel⟩ => ?_
  subst he
  exact ⟨_, rfl, _, _, _, [], _, [], hW', trodAll_mk1 (shut_bool Try.underlying4 _), (trodAll_cons_mk (shut_int Try.underlying3 wf0) (trodAll_cons_mk (Below.trod laidOut (by kernel_rfl) (of_decide_eq_true (by kernel_rfl)) k1 bel lt1) (trodAll_cons_mk (shut_int Try.underlying22 wf2) trodAll_mk0))), rfl, bel.frame _, fun h => by cases h⟩
theorem over : Rows.linkSendsRow.holds Try.pinned (OpenSpec.ofChange Rows.linkSendsSpec) :=
  OpenClaim.holds_of_wide 11 Try.f11 rfl rfl rfl rfl rfl rfl rfl ⟨rfl, rfl, rfl, rfl, rfl⟩ rfl rfl rfl rfl rfl (by kernel_rfl) Try.func11 (by kernel_rfl)
    (of_decide_eq_true (by kernel_rfl)) (by unfold Func.isWrapper; first | (rw [if_pos (by decide +kernel)]; kernel_rfl) | (rw [if_neg (by decide +kernel)]; exact ⟨rfl, rfl⟩))
    (fun os started H enc _ => lifted os started H enc)
end linkSendsDone
theorem LinkSends_holds : Rows.LinkSendsSaid := linkSendsDone.over

end Go.Proofs.Ytapikbgloagnkaa
