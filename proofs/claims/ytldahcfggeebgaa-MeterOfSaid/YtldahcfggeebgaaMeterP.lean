/-
  The walk of the reference's Of. Conditions: a meter that may be, events and classes whose cells are known.
-/
import Derived.Test.YtldahcfggeebgaaMeterO
import Derived.Deep.CutRange
import Derived.Deep.DeepCutAuto
namespace Go.Proofs.Ytldahcfggeebgaa
open Go.ChangeShapes Go.WideShapes Go.ChangeAt Go.RowKit
set_option linter.unusedVariables false
set_option linter.unusedSimpArgs false
theorem field2 (wd s a n o : Int) (v : World) : (Instr.field 31 (.agg #[.int .u64 wd, .int .i64 s, .int .u64 a, .int .u64 n, .int .u64 o]) 2).run Try.prog v = .ok (.int .u64 a) v := by kernel_rfl
def PRel (wd s : Int) (E : Nat → Bool × Int × Int) (V X : Int) (len : Nat) (w : World) (t i : Value) (wr : World) : Prop := ∃ (k : Nat) (a n o t0 : Int), k ≤ len ∧ i = .int .i64 k ∧ t = .int .u64 t0 ∧ Below w.heap.size w wr ∧ Blk wr w.heap.size #[.int .u64 (wd), .int .i64 (s), .int .u64 (a), .int .u64 (n), .int .u64 (o)] 31 ∧ MIn a n o ∧ (0 ≤ t0 ∧ t0 ≤ 18446744073709551615) ∧ Hid (ofRun wd s E (len - k) k a n o t0 = (V, X))
theorem rHasB (a : Option Addr) (len cap : Nat) (zs : List Int) (c : Int) (w : World) (hr : RowI w a len zs) (hm : len ≤ maxLen) (b : Bool) (hb : decide (c ∈ zs) = b) :
    Calls Try.prog 38 #[.slice a len cap, .int .i64 c] w fun e w' => e = .returned (.bool b) ∧ w = w' := by
  subst hb; exact rHas a len cap zs c w hr hm
set_option maxRecDepth 100000 in
set_option maxHeartbeats 4000000 in
theorem rmOf (a0 : Option Addr) (len cap : Nat) (a1 : Option Addr) (ln1 cap1 : Nat) (zs : List Int) (wd s : Int) (E : Nat → Bool × Int × Int) (V X : Int) (w : World) (h1 : 1 ≤ wd ∧ wd ≤ 4294967296) (h2 : 0 ≤ s ∧ s ≤ 8) (hl : len ≤ 200) (hr : Rows_event w a0 len) (hz : RowI w a1 ln1 zs) (hm1 : ln1 ≤ maxLen)
    (hE0 : Hid (∀ k, k < len → ∀ b off, a0 = some ⟨b, off, none⟩ → ∀ x1 x3 x5 x7, w.cell? ⟨b, off + k * 12 + 1, none⟩ = some (.bool x1) → w.cell? ⟨b, off + k * 12 + 3, none⟩ = some (.int .u64 x3) → w.cell? ⟨b, off + k * 12 + 5, none⟩ = some (.int .i64 x5) → w.cell? ⟨b, off + k * 12 + 7, none⟩ = some (.int .i64 x7) → E k = (x1 || !decide (x5 ∈ zs), x3, x7)))
    (hof0 : Hid (ofRun wd s E len 0 0 0 0 0 = (V, X))) :
    Calls Try.prog 22 #[.slice a0 len cap, .slice a1 ln1 cap1, .int .u64 wd, .int .i64 s] w fun e w' => e = .returned (.tuple #[.int .u64 V, .int .i64 X]) ∧ Below w.heap.size w w' := by
  have Hr := hide hr; clear hr
  have Hz := hide hz; clear hz
  go_enter Try.func22, Try.ntmps22
  go_wp2
  go_loopw [11, 21] (fun t i wr => PRel wd s E V X len w t i wr) (fun _ i _ => len - (intOf i).toNat)
  case atStart => exact ⟨0, 0, 0, 0, 0, Nat.zero_le _, rfl, rfl, by (repeat' (first | (with_reducible (first | exact Below.refl _ _ | assumption | refine below_drewN ?_ _ | refine Below.drew ?_ | refine Below.alloc ?_ ?_ _ | refine Below.setCell ?_ ?_ _)) | go_size)), by (repeat' (first | (with_reducible (first | assumption | exact Blk.alloc_new _ _ _ (by first | rfl | (simp; done) | omega) | apply Blk.drewN | apply Blk.drew | apply Blk.alloc_old | apply Blk.set_same | apply Blk.set_other)) | (show (_ : Nat) ≠ _; first | omega | (simp; done) | (simp; omega)) | ((simp only [List.setIfInBounds_toArray, List.set_cons_succ, List.set_cons_zero]); (with_reducible exact rfl)) | (with_reducible exact rfl) | (show (_ : Array Value) = _; exact rfl))), by unfold MIn; omega, by omega, hof0⟩
  case round =>
    obtain ⟨k, a, n, o, t0, hk, rfl, rfl, g0, L0, hi, ht0, hof⟩ := hrel
    have hi0 := hi
    unfold MIn at hi0
    have zL := L0.size; have cL := L0.cell; have fL := L0.frozen
    have hl0 := g0.size
    by_cases hlt : k < len
    · obtain ⟨B, off, rfl, hB, hall⟩ : ∃ b off, a0 = some ⟨b, off, none⟩ ∧ b < w.heap.size ∧ _ := by
        rcases Hr.out with h | h
        · omega
        · exact h
      obtain ⟨x0, x1, x2, x3, x4, x5, x6, x7, x8, x9, x10, x11, h0, h3, h4, h5, h6, h7, h8, h9, h10, h11, e0, e1, e2, e3, e4, e5, e6, e7, e8, e9, e10, e11⟩ := hall k hlt
      clear hall
      have hE := hide (hE0.out k hlt B off rfl x1 x3 x5 x7 e1 e3 e5 e7)
      have cc : ∀ o, wr.cell? ⟨B, o, none⟩ = w.cell? ⟨B, o, none⟩ := fun o => g0.cell (p := ⟨B, o, none⟩) hB
      rw [← cc] at e0 e1 e2 e3 e4 e5 e6 e7 e8 e9 e10 e11
      clear cc
      have hz := Hz.out.below g0
      rcases x1 with _ | _
      · obtain ⟨hb, hc⟩ : ∃ b, decide (x5 ∈ zs) = b := ⟨_, rfl⟩
        rw [hc] at hE
        rcases hb with _ | _
        · go_wp2_with fail
          refine (rHasB a1 ln1 cap1 zs x5 _ (hz.below (by (repeat' (first | (with_reducible (first | exact Below.refl _ _ | assumption | refine below_drewN ?_ _ | refine Below.drew ?_ | refine Below.alloc ?_ ?_ _ | refine Below.setCell ?_ ?_ _)) | go_size)))) hm1 false hc).mono ?_
          rintro e u1 ⟨rfl, rfl⟩
          go_wp2
          go_roundw
          case rel => exact ⟨k + 1, a, n, o, x3, by omega, by go_num, rfl, by (repeat' (first | (with_reducible (first | exact Below.refl _ _ | assumption | refine below_drewN ?_ _ | refine Below.drew ?_ | refine Below.alloc ?_ ?_ _ | refine Below.setCell ?_ ?_ _)) | go_size)), by (repeat' (first | (with_reducible (first | assumption | exact Blk.alloc_new _ _ _ (by first | rfl | (simp; done) | omega) | apply Blk.drewN | apply Blk.drew | apply Blk.alloc_old | apply Blk.set_same | apply Blk.set_other)) | (show (_ : Nat) ≠ _; first | omega | (simp; done) | (simp; omega)) | ((simp only [List.setIfInBounds_toArray, List.set_cons_succ, List.set_cons_zero]); (with_reducible exact rfl)) | (with_reducible exact rfl) | (show (_ : Array Value) = _; exact rfl))), hi, h3, hide (ofRun_skip hlt hE.out hof.out)⟩
          case measure => simp [intOf]; omega
        · obtain ⟨tw, htw⟩ : ∃ x, x3 / wd = x := ⟨_, rfl⟩
          replace hE : E k = (false, x3, x7) := hE.out
          go_wp2_with fail
          refine (rHasB a1 ln1 cap1 zs x5 _ (hz.below (by (repeat' (first | (with_reducible (first | exact Below.refl _ _ | assumption | refine below_drewN ?_ _ | refine Below.drew ?_ | refine Below.alloc ?_ ?_ _ | refine Below.setCell ?_ ?_ _)) | go_size)))) hm1 true hc).mono ?_
          rintro e u1 ⟨rfl, rfl⟩
          by_cases hb0 : x7 < 0
          · obtain ⟨rfl, rfl⟩ := ofRun_len hlt hE hb0 hof.out
            go_wp2_with fail
            refine (rmAdd_len wd s a n o x3 0 x7 _ hb0).mono ?_
            rintro e w4 ⟨rfl, hb4⟩
            have L4 : Blk w4 (w.heap.size) #[.int .u64 (wd), .int .i64 (s), .int .u64 (a), .int .u64 (n), .int .u64 (o)] 31 := Blk.below (by (repeat' (first | (with_reducible (first | assumption | exact Blk.alloc_new _ _ _ (by first | rfl | (simp; done) | omega) | apply Blk.drewN | apply Blk.drew | apply Blk.alloc_old | apply Blk.set_same | apply Blk.set_other)) | (show (_ : Nat) ≠ _; first | omega | (simp; done) | (simp; omega)) | ((simp only [List.setIfInBounds_toArray, List.set_cons_succ, List.set_cons_zero]); (with_reducible exact rfl)) | (with_reducible exact rfl) | (show (_ : Array Value) = _; exact rfl)))) hb4 (by first | (simp; done) | omega | (simp; omega))
            have g4 : Below w.heap.size w w4 := by refine Below.trans ?_ (hb4.mono ?_) <;> (repeat' (first | (with_reducible (first | exact Below.refl _ _ | assumption | refine below_drewN ?_ _ | refine Below.drew ?_ | refine Below.alloc ?_ ?_ _ | refine Below.setCell ?_ ?_ _)) | go_size))
            have hz4 := hb4.size
            (try simp at hz4)
            clear hb4
            replace cL := L4.cell
            replace fL := L4.frozen
            replace zL := L4.size
            go_wp2
            go_returns
            exact ⟨rfl, by (repeat' (first | (with_reducible (first | exact Below.refl _ _ | assumption | refine below_drewN ?_ _ | refine Below.drew ?_ | refine Below.alloc ?_ ?_ _ | refine Below.setCell ?_ ?_ _)) | go_size))⟩
          by_cases hbad : tw < n ∨ 4611686018427387904 < x3
          · obtain ⟨rfl, rfl⟩ := ofRun_bad hlt hE htw hb0 hbad hof.out
            go_wp2_with fail
            refine (rmAdd_bad wd s a n o x3 tw x7 _ h1.1 h3 htw (by omega) hbad).mono ?_
            rintro e w4 ⟨rfl, hb4⟩
            have L4 : Blk w4 (w.heap.size) #[.int .u64 (wd), .int .i64 (s), .int .u64 (a), .int .u64 (n), .int .u64 (o)] 31 := Blk.below (by (repeat' (first | (with_reducible (first | assumption | exact Blk.alloc_new _ _ _ (by first | rfl | (simp; done) | omega) | apply Blk.drewN | apply Blk.drew | apply Blk.alloc_old | apply Blk.set_same | apply Blk.set_other)) | (show (_ : Nat) ≠ _; first | omega | (simp; done) | (simp; omega)) | ((simp only [List.setIfInBounds_toArray, List.set_cons_succ, List.set_cons_zero]); (with_reducible exact rfl)) | (with_reducible exact rfl) | (show (_ : Array Value) = _; exact rfl)))) hb4 (by first | (simp; done) | omega | (simp; omega))
            have g4 : Below w.heap.size w w4 := by refine Below.trans ?_ (hb4.mono ?_) <;> (repeat' (first | (with_reducible (first | exact Below.refl _ _ | assumption | refine below_drewN ?_ _ | refine Below.drew ?_ | refine Below.alloc ?_ ?_ _ | refine Below.setCell ?_ ?_ _)) | go_size))
            have hz4 := hb4.size
            (try simp at hz4)
            clear hb4
            replace cL := L4.cell
            replace fL := L4.frozen
            replace zL := L4.size
            go_wp2
            go_returns
            exact ⟨rfl, by (repeat' (first | (with_reducible (first | exact Below.refl _ _ | assumption | refine below_drewN ?_ _ | refine Below.drew ?_ | refine Below.alloc ?_ ?_ _ | refine Below.setCell ?_ ?_ _)) | go_size))⟩
          · have ht := to_rng ⟨h3.1, by omega⟩ h1.1 htw
            have hi' := hi.turn (s := s) ht x7 (by omega)
            obtain ⟨q, hq⟩ : ∃ q, min (mopen o n tw + x7) 1099511627776 = q := ⟨_, rfl⟩
            have hof' := hide (ofRun_ok hlt hE htw hb0 hbad hq hof.out)
            rw [hq] at hi'
            clear hof
            go_wp2_with fail
            refine (rmAdd_ok wd s a n o x3 tw x7 _ h1.1 h3 htw (by omega) (by omega) (by omega) h2 hi.1 hi.2.2 _ q ⟨by omega, h7.2⟩ rfl hq).mono ?_
            rintro e w4 ⟨rfl, hb4⟩
            have L4 : Blk w4 (w.heap.size) #[.int .u64 (wd), .int .i64 (s), .int .u64 (a), .int .u64 (n), .int .u64 (o)] 31 := Blk.below (by (repeat' (first | (with_reducible (first | assumption | exact Blk.alloc_new _ _ _ (by first | rfl | (simp; done) | omega) | apply Blk.drewN | apply Blk.drew | apply Blk.alloc_old | apply Blk.set_same | apply Blk.set_other)) | (show (_ : Nat) ≠ _; first | omega | (simp; done) | (simp; omega)) | ((simp only [List.setIfInBounds_toArray, List.set_cons_succ, List.set_cons_zero]); (with_reducible exact rfl)) | (with_reducible exact rfl) | (show (_ : Array Value) = _; exact rfl)))) hb4 (by first | (simp; done) | omega | (simp; omega))
            have g4 : Below w.heap.size w w4 := by refine Below.trans ?_ (hb4.mono ?_) <;> (repeat' (first | (with_reducible (first | exact Below.refl _ _ | assumption | refine below_drewN ?_ _ | refine Below.drew ?_ | refine Below.alloc ?_ ?_ _ | refine Below.setCell ?_ ?_ _)) | go_size))
            have hz4 := hb4.size
            (try simp at hz4)
            clear hb4
            replace cL := L4.cell
            replace fL := L4.frozen
            replace zL := L4.size
            go_upto_region 9 with (fail)
            refine wp_forget (fun v => Below w.heap.size w v ∧ Blk v (w.heap.size) #[.int .u64 (wd), .int .i64 (s), .int .u64 (a), .int .u64 (n), .int .u64 (o)] 31 ∧ Blk v (w4.heap.size) #[.int .u64 (wd), .int .i64 (s), .int .u64 ((mavg s a o n tw)), .int .u64 (tw), .int .u64 (q)] 31) ⟨by (repeat' (first | (with_reducible (first | exact Below.refl _ _ | assumption | refine below_drewN ?_ _ | refine Below.drew ?_ | refine Below.alloc ?_ ?_ _ | refine Below.setCell ?_ ?_ _)) | go_size)), by (repeat' (first | (with_reducible (first | assumption | exact Blk.alloc_new _ _ _ (by first | rfl | (simp; done) | omega) | apply Blk.drewN | apply Blk.drew | apply Blk.alloc_old | apply Blk.set_same | apply Blk.set_other)) | (show (_ : Nat) ≠ _; first | omega | (simp; done) | (simp; omega)) | ((simp only [List.setIfInBounds_toArray, List.set_cons_succ, List.set_cons_zero]); (with_reducible exact rfl)) | (with_reducible exact rfl) | (show (_ : Array Value) = _; exact rfl))), by (repeat' (first | (with_reducible (first | assumption | exact Blk.alloc_new _ _ _ (by first | rfl | (simp; done) | omega) | apply Blk.drewN | apply Blk.drew | apply Blk.alloc_old | apply Blk.set_same | apply Blk.set_other)) | (show (_ : Nat) ≠ _; first | omega | (simp; done) | (simp; omega)) | ((simp only [List.setIfInBounds_toArray, List.set_cons_succ, List.set_cons_zero]); (with_reducible exact rfl)) | (with_reducible exact rfl) | (show (_ : Array Value) = _; exact rfl)))⟩ ?_
            rintro w47 ⟨g47, L47, X47⟩
            have hz47 := g47.size
            replace cL := L47.cell
            replace fL := L47.frozen
            replace zL := L47.size
            have cX := X47.cell
            have fX := X47.frozen
            have zX := X47.size
            go_wp2_with (first | (refine load_blk 31 (.tmp 14) (w4.heap.size) #[.int .u64 (wd), .int .i64 (s), .int .u64 ((mavg s a o n tw)), .int .u64 (tw), .int .u64 (q)] 31 _ (by rfl) (by rfl) (by rfl) (by (repeat' (first | (with_reducible (first | assumption | exact Blk.alloc_new _ _ _ (by first | rfl | (simp; done) | omega) | apply Blk.drewN | apply Blk.drew | apply Blk.alloc_old | apply Blk.set_same | apply Blk.set_other)) | (show (_ : Nat) ≠ _; first | omega | (simp; done) | (simp; omega)) | ((simp only [List.setIfInBounds_toArray, List.set_cons_succ, List.set_cons_zero]); (with_reducible exact rfl)) | (with_reducible exact rfl) | (show (_ : Array Value) = _; exact rfl)))) Try.underlying31 rfl (by kernel_rfl) ?_) | (refine store_blk 31 (.tmp 10) (.tmp 49) (w.heap.size) #[.int .u64 (wd), .int .i64 (s), .int .u64 (a), .int .u64 (n), .int .u64 (o)] #[.int .u64 (wd), .int .i64 (s), .int .u64 ((mavg s a o n tw)), .int .u64 (tw), .int .u64 (q)] 31 (by rfl) (by rfl) (by rfl) (by rfl) (by (repeat' (first | (with_reducible (first | assumption | exact Blk.alloc_new _ _ _ (by first | rfl | (simp; done) | omega) | apply Blk.drewN | apply Blk.drew | apply Blk.alloc_old | apply Blk.set_same | apply Blk.set_other)) | (show (_ : Nat) ≠ _; first | omega | (simp; done) | (simp; omega)) | ((simp only [List.setIfInBounds_toArray, List.set_cons_succ, List.set_cons_zero]); (with_reducible exact rfl)) | (with_reducible exact rfl) | (show (_ : Array Value) = _; exact rfl)))) rfl (by kernel_rfl) (by simp [Value.oneCell']) ?_; intro w6 L6 kB6 kO6 hs6; have g6 : Below w.heap.size w w6 := kB6 _ _ (by first | (simp; done) | omega | (simp; omega)) (by (repeat' (first | (with_reducible (first | exact Below.refl _ _ | assumption | refine below_drewN ?_ _ | refine Below.drew ?_ | refine Below.alloc ?_ ?_ _ | refine Below.setCell ?_ ?_ _)) | go_size))); replace cL := L6.cell; replace fL := L6.frozen; replace zL := L6.size; clear kB6 kO6 cX fX zX X47 L47))
            go_roundw
            case rel => exact ⟨k + 1, _, _, q, x3, by omega, by go_num, rfl, by (repeat' (first | (with_reducible (first | exact Below.refl _ _ | assumption | refine below_drewN ?_ _ | refine Below.drew ?_ | refine Below.alloc ?_ ?_ _ | refine Below.setCell ?_ ?_ _)) | go_size)), by (repeat' (first | (with_reducible (first | assumption | exact Blk.alloc_new _ _ _ (by first | rfl | (simp; done) | omega) | apply Blk.drewN | apply Blk.drew | apply Blk.alloc_old | apply Blk.set_same | apply Blk.set_other)) | (show (_ : Nat) ≠ _; first | omega | (simp; done) | (simp; omega)) | ((simp only [List.setIfInBounds_toArray, List.set_cons_succ, List.set_cons_zero]); (with_reducible exact rfl)) | (with_reducible exact rfl) | (show (_ : Array Value) = _; exact rfl))), hi', h3, hof'⟩
            case measure => simp [intOf]; omega
      · have hE' : E k = (true, x3, x7) := hE.out
        have Hx := hide hE'; clear hE' hE
        go_wp2
        go_roundw
        case rel => exact ⟨k + 1, a, n, o, x3, by omega, by go_num, rfl, by (repeat' (first | (with_reducible (first | exact Below.refl _ _ | assumption | refine below_drewN ?_ _ | refine Below.drew ?_ | refine Below.alloc ?_ ?_ _ | refine Below.setCell ?_ ?_ _)) | go_size)), by (repeat' (first | (with_reducible (first | assumption | exact Blk.alloc_new _ _ _ (by first | rfl | (simp; done) | omega) | apply Blk.drewN | apply Blk.drew | apply Blk.alloc_old | apply Blk.set_same | apply Blk.set_other)) | (show (_ : Nat) ≠ _; first | omega | (simp; done) | (simp; omega)) | ((simp only [List.setIfInBounds_toArray, List.set_cons_succ, List.set_cons_zero]); (with_reducible exact rfl)) | (with_reducible exact rfl) | (show (_ : Array Value) = _; exact rfl))), hi, h3, hide (ofRun_skip hlt Hx.out hof.out)⟩
        case measure => simp [intOf]; omega
    · obtain ⟨tw, htw⟩ : ∃ x, t0 / wd = x := ⟨_, rfl⟩
      by_cases hbad : tw < n ∨ 4611686018427387904 < t0
      · obtain ⟨rfl, rfl⟩ := ofRun_end_bad hlt htw hbad hof.out
        go_wp2_with fail
        refine (rmBad wd s a n o _ t0 tw true h1.1 ht0 htw (decide_eq_true hbad)).mono ?_
        rintro e w2 ⟨rfl, hb2⟩
        have L2 : Blk w2 (w.heap.size) #[.int .u64 (wd), .int .i64 (s), .int .u64 (a), .int .u64 (n), .int .u64 (o)] 31 := Blk.below (by (repeat' (first | (with_reducible (first | assumption | exact Blk.alloc_new _ _ _ (by first | rfl | (simp; done) | omega) | apply Blk.drewN | apply Blk.drew | apply Blk.alloc_old | apply Blk.set_same | apply Blk.set_other)) | (show (_ : Nat) ≠ _; first | omega | (simp; done) | (simp; omega)) | ((simp only [List.setIfInBounds_toArray, List.set_cons_succ, List.set_cons_zero]); (with_reducible exact rfl)) | (with_reducible exact rfl) | (show (_ : Array Value) = _; exact rfl)))) hb2 (by first | (simp; done) | omega | (simp; omega))
        have g2 : Below w.heap.size w w2 := by refine Below.trans ?_ (hb2.mono ?_) <;> (repeat' (first | (with_reducible (first | exact Below.refl _ _ | assumption | refine below_drewN ?_ _ | refine Below.drew ?_ | refine Below.alloc ?_ ?_ _ | refine Below.setCell ?_ ?_ _)) | go_size))
        have hz2 := hb2.size
        (try simp at hz2)
        clear hb2
        replace cL := L2.cell
        replace fL := L2.frozen
        replace zL := L2.size
        go_wp2
        go_returns
        exact ⟨rfl, by (repeat' (first | (with_reducible (first | exact Below.refl _ _ | assumption | refine below_drewN ?_ _ | refine Below.drew ?_ | refine Below.alloc ?_ ?_ _ | refine Below.setCell ?_ ?_ _)) | go_size))⟩
      · obtain ⟨rfl, rfl⟩ := ofRun_end hlt htw hbad hof.out
        have ht := to_rng ⟨ht0.1, by omega⟩ h1.1 htw
        go_wp2_with fail
        refine (rmBad wd s a n o _ t0 tw false h1.1 ht0 htw (decide_eq_false hbad)).mono ?_
        rintro e w2 ⟨rfl, hb2⟩
        have L2 : Blk w2 (w.heap.size) #[.int .u64 (wd), .int .i64 (s), .int .u64 (a), .int .u64 (n), .int .u64 (o)] 31 := Blk.below (by (repeat' (first | (with_reducible (first | assumption | exact Blk.alloc_new _ _ _ (by first | rfl | (simp; done) | omega) | apply Blk.drewN | apply Blk.drew | apply Blk.alloc_old | apply Blk.set_same | apply Blk.set_other)) | (show (_ : Nat) ≠ _; first | omega | (simp; done) | (simp; omega)) | ((simp only [List.setIfInBounds_toArray, List.set_cons_succ, List.set_cons_zero]); (with_reducible exact rfl)) | (with_reducible exact rfl) | (show (_ : Array Value) = _; exact rfl)))) hb2 (by first | (simp; done) | omega | (simp; omega))
        have g2 : Below w.heap.size w w2 := by refine Below.trans ?_ (hb2.mono ?_) <;> (repeat' (first | (with_reducible (first | exact Below.refl _ _ | assumption | refine below_drewN ?_ _ | refine Below.drew ?_ | refine Below.alloc ?_ ?_ _ | refine Below.setCell ?_ ?_ _)) | go_size))
        have hz2 := hb2.size
        (try simp at hz2)
        clear hb2
        replace cL := L2.cell
        replace fL := L2.frozen
        replace zL := L2.size
        go_wp2_with fail
        refine (rmTurn wd s a n o _ t0 tw h1.1 ⟨ht0.1, by omega⟩ htw (by omega) (by omega) h2 hi.1 hi.2.2).mono ?_
        rintro e w3 ⟨rfl, hb3⟩
        have L3 : Blk w3 (w.heap.size) #[.int .u64 (wd), .int .i64 (s), .int .u64 (a), .int .u64 (n), .int .u64 (o)] 31 := Blk.below (by (repeat' (first | (with_reducible (first | assumption | exact Blk.alloc_new _ _ _ (by first | rfl | (simp; done) | omega) | apply Blk.drewN | apply Blk.drew | apply Blk.alloc_old | apply Blk.set_same | apply Blk.set_other)) | (show (_ : Nat) ≠ _; first | omega | (simp; done) | (simp; omega)) | ((simp only [List.setIfInBounds_toArray, List.set_cons_succ, List.set_cons_zero]); (with_reducible exact rfl)) | (with_reducible exact rfl) | (show (_ : Array Value) = _; exact rfl)))) hb3 (by first | (simp; done) | omega | (simp; omega))
        have g3 : Below w.heap.size w w3 := by refine Below.trans ?_ (hb3.mono ?_) <;> (repeat' (first | (with_reducible (first | exact Below.refl _ _ | assumption | refine below_drewN ?_ _ | refine Below.drew ?_ | refine Below.alloc ?_ ?_ _ | refine Below.setCell ?_ ?_ _)) | go_size))
        have hz3 := hb3.size
        (try simp at hz3)
        clear hb3
        replace cL := L3.cell
        replace fL := L3.frozen
        replace zL := L3.size
        have hfz := field2 wd s (mavg s a o n tw) tw (mopen o n tw)
        go_wp2
        go_returns
        exact ⟨rfl, by (repeat' (first | (with_reducible (first | exact Below.refl _ _ | assumption | refine below_drewN ?_ _ | refine Below.drew ?_ | refine Below.alloc ?_ ?_ _ | refine Below.setCell ?_ ?_ _)) | go_size))⟩
end Go.Proofs.Ytldahcfggeebgaa
