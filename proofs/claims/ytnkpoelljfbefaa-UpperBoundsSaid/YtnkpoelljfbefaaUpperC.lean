/-
  The statement UpperBounds: if a class with a linear or concave limit is picked only at ticks from which it fits, it has, at any tick, since any wake, no more bytes than Most of the ticks since. Conditions: none.
-/
import Derived.Test.YtnkpoelljfbefaaUpperB
namespace Go.Proofs.Ytnkpoelljfbefaa
open Go.ChangeShapes Go.WideShapes Go.ChangeAt Go.RowKit
open Go.Sort
set_option linter.unusedVariables false
set_option linter.unusedSimpArgs false
def UBRel (m d n L : Int) (len NX : Nat) (w : World) (nw tt wk i : Value) (wr : World) : Prop := ∃ (k : Nat) (now total : Int) (r : RN) (t : Int) (ws : List WN), k ≤ len ∧ i = .int .i64 k ∧ nw = .int .u64 now ∧ tt = .int .u64 total ∧ Below w.heap.size w wr ∧ Blk wr (w.heap.size) #[.int .u64 m, .int .u64 d, .int .u64 n] 32 ∧ Blk wr NX #[.bool true, .int .u64 r.f.X, .int .u64 (hi (r.f.Y)), .int .u64 (lo (r.f.Y)), .int .u64 r.f.M, .int .u64 r.t.X, .int .u64 (hi (r.t.Y)), .int .u64 (lo (r.t.Y)), .int .u64 r.t.M, .bool r.b, .int .u64 (t)] 61 ∧ HoldW wr (NX + 1) wk ws ∧ 0 < ws.length ∧ ws.length ≤ k + 1 ∧ (0 ≤ now ∧ now ≤ k * 1099511627776) ∧ (0 ≤ total ∧ total ≤ k * 16384) ∧ UBI m d n now total r t ws
def IRel (m d n : Int) (r' : RN) (t' : Int) (NX ln : Nat) (wk : Value) (ws : List WN) (w : World) (i : Value) (wr : World) : Prop := ∃ k : Nat, k ≤ ln ∧ i = .int .i64 k ∧ Below w.heap.size w wr ∧ Blk wr (w.heap.size) #[.int .u64 m, .int .u64 d, .int .u64 n] 32 ∧ Blk wr NX #[.bool true, .int .u64 r'.f.X, .int .u64 (hi (r'.f.Y)), .int .u64 (lo (r'.f.Y)), .int .u64 r'.f.M, .int .u64 r'.t.X, .int .u64 (hi (r'.t.Y)), .int .u64 (lo (r'.t.Y)), .int .u64 r'.t.M, .bool r'.b, .int .u64 (t')] 61 ∧ HoldW wr (NX + 1) wk ws
set_option maxRecDepth 100000 in
set_option maxHeartbeats 16000000 in
theorem UB_main (m d n L K : Int) (a0 : Option Addr) (len cap : Nat) (w : World) (hm : 0 ≤ m ∧ m ≤ 18446744073709551615) (hd : 0 ≤ d ∧ d ≤ 18446744073709551615) (hn : 0 ≤ n ∧ n ≤ 18446744073709551615) (hL1 : Lin m d n) (hl1 : 1 ≤ L) (hl2 : L ≤ 16384) (hl : len ≤ 60) (hr : Rows_act22 w a0 len) (hK : kd m d n = K) :
    Calls Try.prog 8 #[.agg #[.int .u64 m, .int .u64 d, .int .u64 n], .slice a0 len cap, .int .i64 L] w fun e w' => e = .returned (.bool true) ∧ Below w.heap.size w w' := by
  have hc := hL1.cin hm.1 hd.1 hn.1
  have hL0 : -9223372036854775808 ≤ L ∧ L ≤ 9223372036854775807 := by omega
  have d1 : decide ((60 : Int) < (len : Int)) = false := decide_eq_false (by omega)
  have d2 : decide (L < 1) = false := decide_eq_false (by omega)
  have d3 : decide (16384 < L) = false := decide_eq_false (by omega)
  have Hr := hide hr; clear hr
  have HL := hide hL1
  have hk23 : K = 2 ∨ K = 3 := by rw [← hK]; exact hL1
  have HK := hide hK; clear hK hL1
  obtain ⟨io, hio, hz0, hz1, hz2⟩ := info_parts info_since
  have Hio := hide hio; have Hz0 := hide hz0; have Hz1 := hide hz1; have Hz2 := hide hz2
  clear hio hz0 hz1 hz2
  obtain ⟨r0, hr0⟩ : ∃ x, RN.start m d n 0 (0 * 65536) = x := ⟨_, rfl⟩
  obtain ⟨t0, ht0⟩ : ∃ x, r0.reach (0 * 65536) = x := ⟨_, rfl⟩
  have hcf := capped_first HL.out
  have hI0 := UBI.start HL.out hc
  rw [hr0, ht0] at hcf hI0
  have Hcf := hide hcf; have HI0 := hide hI0
  have oz : CH.zero.r.ok := by unfold CH.zero RN.ok LN.ok In128; simp
  clear hcf hI0 hr0 ht0
  have K1 := hide (show ∀ v, Calls Try.prog 24 #[.agg #[.bool false, .int .u64 0, .int .u64 0, .int .u64 0, .int .u64 0, .int .u64 0, .int .u64 0, .int .u64 0, .int .u64 0, .bool false, .int .u64 0], .agg #[.int .u64 m, .int .u64 d, .int .u64 n], .int .u64 0, .int .u64 0] v fun e w' => e = .returned (.agg #[.bool true, .int .u64 r0.f.X, .int .u64 (hi (r0.f.Y)), .int .u64 (lo (r0.f.Y)), .int .u64 r0.f.M, .int .u64 r0.t.X, .int .u64 (hi (r0.t.Y)), .int .u64 (lo (r0.t.Y)), .int .u64 r0.t.M, .bool r0.b, .int .u64 t0]) ∧ Below v.heap.size v w' from fun v => uwake_any CH.zero ⟨true, r0, t0⟩ m d n 0 0 v hm hd hn (by omega) (by omega) oz Hcf.out)
  have k2a : (K != 2) = false ∨ (K != 2) = true ∧ (K != 3) = false := by rcases hk23 with h | h <;> subst h <;> simp
  rcases k2a with k2 | ⟨k2, k3⟩
  all_goals
    go_enter Try.func8, Try.ntmps8
    go_wp2_with (first | (go_at_call 31; refine (curveOf_any m d n K _ hm.1 hd.1 hn.1 HK.out).mono ?_; rintro e w' ⟨rfl, hb'⟩; have hbx : Below w.heap.size w w' := (by refine Below.trans ?_ (Below.mono hb' ?_) <;> (repeat' (first | (with_reducible (first | exact Below.refl _ _ | assumption | refine below_drewN ?_ _ | refine Below.drew ?_ | refine Below.alloc ?_ ?_ _ | refine Below.setCell ?_ ?_ _)) | go_size))); have hbs := hb'.size; (try simp at hbs); have hkC : Blk w' (w.heap.size) #[.int .u64 m, .int .u64 d, .int .u64 n] 32 := Blk.below (by (repeat' (first | (with_reducible (first | assumption | exact Blk.alloc_new _ _ _ (by first | rfl | (simp; done) | omega) | apply Blk.drewN | apply Blk.drew | apply Blk.alloc_old | apply Blk.set_same | apply Blk.set_other)) | (show (_ : Nat) ≠ _; first | omega | (simp; done) | (simp; omega)) | ((simp only [List.setIfInBounds_toArray, List.set_cons_succ, List.set_cons_zero]); (with_reducible exact rfl)) | (with_reducible exact rfl) | (show (_ : Array Value) = _; exact rfl)))) hb' (by first | (simp; done) | omega | (simp; omega)); have cC := hkC.cell; have fC := hkC.frozen; have zC := hkC.size; skip; clear hb'))
    refine (K1.out _).mono ?_
    rintro e w1 ⟨rfl, hb1⟩
    have C1 : Blk w1 (w.heap.size) #[.int .u64 m, .int .u64 d, .int .u64 n] 32 := Blk.below (by (repeat' (first | (with_reducible (first | assumption | exact Blk.alloc_new _ _ _ (by first | rfl | (simp; done) | omega) | apply Blk.drewN | apply Blk.drew | apply Blk.alloc_old | apply Blk.set_same | apply Blk.set_other)) | (show (_ : Nat) ≠ _; first | omega | (simp; done) | (simp; omega)) | ((simp only [List.setIfInBounds_toArray, List.set_cons_succ, List.set_cons_zero]); (with_reducible exact rfl)) | (with_reducible exact rfl) | (show (_ : Array Value) = _; exact rfl)))) hb1 (by first | (simp; done) | omega | (simp; omega))
    have g1 : Below w.heap.size w w1 := by refine Below.trans ?_ (hb1.mono ?_) <;> (repeat' (first | (with_reducible (first | exact Below.refl _ _ | assumption | refine below_drewN ?_ _ | refine Below.drew ?_ | refine Below.alloc ?_ ?_ _ | refine Below.setCell ?_ ?_ _)) | go_size))
    have hz1 := hb1.size
    (try simp at hz1)
    clear hb1
    have cC := C1.cell
    have fC := C1.frozen
    have zC := C1.size
    obtain ⟨NX, hNX⟩ : ∃ NX, w1.heap.size = NX := ⟨_, rfl⟩
    have hNw : w.heap.size < NX := by omega
    go_upto_region 7 with (fail)
    refine wp_forget (fun v => Below w.heap.size w v ∧ Blk v (w.heap.size) #[.int .u64 m, .int .u64 d, .int .u64 n] 32 ∧ Blk v (w1.heap.size) #[.bool true, .int .u64 r0.f.X, .int .u64 (hi (r0.f.Y)), .int .u64 (lo (r0.f.Y)), .int .u64 r0.f.M, .int .u64 r0.t.X, .int .u64 (hi (r0.t.Y)), .int .u64 (lo (r0.t.Y)), .int .u64 r0.t.M, .bool r0.b, .int .u64 (t0)] 61) ⟨by (repeat' (first | (with_reducible (first | exact Below.refl _ _ | assumption | refine below_drewN ?_ _ | refine Below.drew ?_ | refine Below.alloc ?_ ?_ _ | refine Below.setCell ?_ ?_ _)) | go_size)), by (repeat' (first | (with_reducible (first | assumption | exact Blk.alloc_new _ _ _ (by first | rfl | (simp; done) | omega) | apply Blk.drewN | apply Blk.drew | apply Blk.alloc_old | apply Blk.set_same | apply Blk.set_other)) | (show (_ : Nat) ≠ _; first | omega | (simp; done) | (simp; omega)) | ((simp only [List.setIfInBounds_toArray, List.set_cons_succ, List.set_cons_zero]); (with_reducible exact rfl)) | (with_reducible exact rfl) | (show (_ : Array Value) = _; exact rfl))), by (repeat' (first | (with_reducible (first | assumption | exact Blk.alloc_new _ _ _ (by first | rfl | (simp; done) | omega) | apply Blk.drewN | apply Blk.drew | apply Blk.alloc_old | apply Blk.set_same | apply Blk.set_other)) | (show (_ : Nat) ≠ _; first | omega | (simp; done) | (simp; omega)) | ((simp only [List.setIfInBounds_toArray, List.set_cons_succ, List.set_cons_zero]); (with_reducible exact rfl)) | (with_reducible exact rfl) | (show (_ : Array Value) = _; exact rfl)))⟩ ?_
    rintro w2 ⟨g2, C2, X2⟩
    have hz2 := g2.size
    replace cC := C2.cell
    replace fC := C2.frozen
    replace zC := C2.size
    have cX := X2.cell
    have fX := X2.frozen
    have zX := X2.size
    rw [hNX] at X2 cX fX zX
    have hmx : 0 + 1 ≤ maxLen := by unfold maxLen; omega
    have hby : (0 + 1) * 16 ≤ 140737488355328 := by omega
    go_wp2_with (refine wpList_append_lies _ (by rfl) (.tmp 42) (.tmp 44) 76 (by rfl) (NX + 1) 78 io (.agg #[.int .u64 0, .int .u64 0]) 2 16 Try.underlying76 Hio.out Hz0.out Hz1.out Hz2.out (by rfl) (by omega) _ ([] : List WN).length (flatw ([] : List WN)) (by rfl) (⟨rfl, .inl ⟨rfl, rfl⟩⟩) ⟨w2.heap.size, 0, none⟩ 1 1 [.int .u64 (0), .int .u64 (0)] (by rfl) (by rfl) (World.news_of_block (show Blk _ (w2.heap.size) (#[.int .u64 (0), .int .u64 (0)]) 78 from (by (repeat' (first | (with_reducible (first | assumption | exact Blk.alloc_new _ _ _ (by first | rfl | (simp; done) | omega) | apply Blk.drewN | apply Blk.drew | apply Blk.alloc_old | apply Blk.set_same | apply Blk.set_other)) | (show (_ : Nat) ≠ _; first | omega | (simp; done) | (simp; omega)) | ((simp only [List.setIfInBounds_toArray, List.set_cons_succ, List.set_cons_zero]); (with_reducible exact rfl)) | (with_reducible exact rfl) | (show (_ : Array Value) = _; exact rfl)))))) (one2 _ _) (by omega) hmx hby (by first | omega | (simp; omega)) _ rfl ?_; intro gg3 cap3 w3 hown3 hgrow3 hat3 hlt3; have g3 : Below w.heap.size w w3 := below_grown (by (repeat' (first | (with_reducible (first | exact Below.refl _ _ | assumption | refine below_drewN ?_ _ | refine Below.drew ?_ | refine Below.alloc ?_ ?_ _ | refine Below.setCell ?_ ?_ _)) | go_size))) hgrow3 (by first | omega | (simp; omega)) (fun _ h => by cases h))
    have hne3 : some w.heap.size ≠ (Value.slice none 0 0).ownBlock := by intro h; cases h
    have hne3' : some NX ≠ (Value.slice none 0 0).ownBlock := by intro h; cases h
    have C3 : Blk w3 w.heap.size #[.int .u64 m, .int .u64 d, .int .u64 n] 32 := Blk.grown (by (repeat' (first | (with_reducible (first | assumption | exact Blk.alloc_new _ _ _ (by first | rfl | (simp; done) | omega) | apply Blk.drewN | apply Blk.drew | apply Blk.alloc_old | apply Blk.set_same | apply Blk.set_other)) | (show (_ : Nat) ≠ _; first | omega | (simp; done) | (simp; omega)) | ((simp only [List.setIfInBounds_toArray, List.set_cons_succ, List.set_cons_zero]); (with_reducible exact rfl)) | (with_reducible exact rfl) | (show (_ : Array Value) = _; exact rfl)))) hgrow3 hne3
    have X3 : Blk w3 NX #[.bool true, .int .u64 r0.f.X, .int .u64 (hi (r0.f.Y)), .int .u64 (lo (r0.f.Y)), .int .u64 r0.f.M, .int .u64 r0.t.X, .int .u64 (hi (r0.t.Y)), .int .u64 (lo (r0.t.Y)), .int .u64 r0.t.M, .bool r0.b, .int .u64 (t0)] 61 := Blk.grown (by (repeat' (first | (with_reducible (first | assumption | exact Blk.alloc_new _ _ _ (by first | rfl | (simp; done) | omega) | apply Blk.drewN | apply Blk.drew | apply Blk.alloc_old | apply Blk.set_same | apply Blk.set_other)) | (show (_ : Nat) ≠ _; first | omega | (simp; done) | (simp; omega)) | ((simp only [List.setIfInBounds_toArray, List.set_cons_succ, List.set_cons_zero]); (with_reducible exact rfl)) | (with_reducible exact rfl) | (show (_ : Array Value) = _; exact rfl)))) hgrow3 hne3'
    have H3 : HoldW w3 (NX + 1) (.slice (some ⟨gg3, 0, none⟩) 1 cap3) [⟨0, 0⟩] := hown3
    clear hgrow3 hown3 hat3
    go_loopw [7, 8, 10, 48] (fun nw tt wk i wr => UBRel m d n L len NX w nw tt wk i wr) (fun _ _ _ i _ => len - (intOf i).toNat)
    case atStart => exact ⟨0, 0, 0, r0, t0, [⟨0, 0⟩], Nat.zero_le _, rfl, rfl, rfl, g3, C3, X3, H3, by simp, by simp, by omega, by omega, HI0.out⟩
    case round =>
      obtain ⟨k, now, total, r, t, ws, hk, rfl, rfl, rfl, g0, C0, X0, H0, hwl, hwk, hnow, htot, hI⟩ := hrel
      have cC := C0.cell; have fC := C0.frozen; have zC := C0.size
      have cX := X0.cell; have fX := X0.frozen; have zX := X0.size
      have nxr : NX < wr.heap.size := zX
      have cxr : w.heap.size < wr.heap.size := zC
      have hl0 := g0.size
      clear g3 C3 X3 H3 hlt3
      by_cases hlt : k < len
      · obtain ⟨B, off, rfl, hB, hcs⟩ : ∃ b off, a0 = some ⟨b, off, none⟩ ∧ b < w.heap.size ∧ _ := by
          rcases Hr.out with h | h
          · omega
          · exact h
        obtain ⟨kd_, ln, tk, hkd, hln, htk, e0, e1, e2⟩ := hcs k hlt
        clear hcs
        have cc : ∀ o, wr.cell? ⟨B, o, none⟩ = w.cell? ⟨B, o, none⟩ := fun o => g0.cell (p := ⟨B, o, none⟩) hB
        rw [← cc] at e0 e1 e2
        clear cc
        obtain ⟨g, cp, rfl, hgb, hgl, hle, hcm, -⟩ := H0.read hwl
        unfold maxLen at hcm
        obtain ⟨x0, hx0⟩ : ∃ x, tk % 1099511627776 = x := ⟨_, rfl⟩
        have y0 : 0 ≤ x0 ∧ x0 < 1099511627776 := by omega
        have hk60 : (k : Int) ≤ 60 := by omega
        have hf : FIn (now + x0) (total * 65536) := by unfold FIn; omega
        have HI1 := hide (hI.later (x := now + x0) (by omega))
        have or' : r.ok := RN.small_ok hI.1.1
        clear hI
        by_cases hz : kd_ = 0
        · have dz : (kd_ == 0) = true := beq_iff_eq.2 hz
          have hcap := capped_has (r := r) (t := t) (now := now + x0) (total := total) HL.out
          have hw := HI1.out.wake HL.out hc hf (by omega) (by omega)
          obtain ⟨r1, hr1⟩ : ∃ x, RN.meet r (RN.start m d n (now + x0) (total * 65536)) = x := ⟨_, rfl⟩
          rw [hr1] at hcap hw
          obtain ⟨t1, ht1⟩ : ∃ x, r1.reach (total * 65536) = x := ⟨_, rfl⟩
          rw [ht1] at hcap hw
          have HW := hide hw; have Hcap := hide hcap; clear hw hcap hr1 ht1
          have hmx : ws.length + 1 ≤ maxLen := by unfold maxLen; omega
          have hby : (ws.length + 1) * 16 ≤ 140737488355328 := by omega
          go_wp2_with (refine wpList_append_lies _ (by rfl) (.tmp 60) (.tmp 64) 76 (by rfl) (NX + 1) 78 io (.agg #[.int .u64 0, .int .u64 0]) 2 16 Try.underlying76 Hio.out Hz0.out Hz1.out Hz2.out (by rfl) (by omega) _ ws.length (flatw ws) (by rfl) (H0.below (by (repeat' (first | (with_reducible (first | exact Below.refl _ _ | assumption | refine below_drewN ?_ _ | refine Below.drew ?_ | refine Below.alloc ?_ ?_ _ | refine Below.setCell ?_ ?_ _)) | go_size)))) ⟨wr.heap.size + 1, 0, none⟩ 1 1 [.int .u64 (now + x0), .int .u64 (total)] (by rfl) (by rfl) (World.news_of_block (show Blk _ (wr.heap.size + 1) (#[.int .u64 (now + x0), .int .u64 (total)]) 78 from (by (repeat' (first | (with_reducible (first | assumption | exact Blk.alloc_new _ _ _ (by first | rfl | (simp; done) | omega) | apply Blk.drewN | apply Blk.drew | apply Blk.alloc_old | apply Blk.set_same | apply Blk.set_other)) | (show (_ : Nat) ≠ _; first | omega | (simp; done) | (simp; omega)) | ((simp only [List.setIfInBounds_toArray, List.set_cons_succ, List.set_cons_zero]); (with_reducible exact rfl)) | (with_reducible exact rfl) | (show (_ : Array Value) = _; exact rfl)))))) (one2 _ _) (by omega) hmx hby (by first | omega | (simp; omega)) _ rfl ?_; intro gg4 cap4 w4 hown4 hgrow4 hat4 hlt4; have hneC : some w.heap.size ≠ (Value.slice (some ⟨g, 0, none⟩) ws.length cp).ownBlock := H0.ne (by omega); have hneX : some NX ≠ (Value.slice (some ⟨g, 0, none⟩) ws.length cp).ownBlock := H0.ne (by omega); have C4 : Blk w4 w.heap.size #[.int .u64 m, .int .u64 d, .int .u64 n] 32 := Blk.grown (by (repeat' (first | (with_reducible (first | assumption | exact Blk.alloc_new _ _ _ (by first | rfl | (simp; done) | omega) | apply Blk.drewN | apply Blk.drew | apply Blk.alloc_old | apply Blk.set_same | apply Blk.set_other)) | (show (_ : Nat) ≠ _; first | omega | (simp; done) | (simp; omega)) | ((simp only [List.setIfInBounds_toArray, List.set_cons_succ, List.set_cons_zero]); (with_reducible exact rfl)) | (with_reducible exact rfl) | (show (_ : Array Value) = _; exact rfl)))) hgrow4 hneC; have X4 : Blk w4 NX #[.bool true, .int .u64 r.f.X, .int .u64 (hi (r.f.Y)), .int .u64 (lo (r.f.Y)), .int .u64 r.f.M, .int .u64 r.t.X, .int .u64 (hi (r.t.Y)), .int .u64 (lo (r.t.Y)), .int .u64 r.t.M, .bool r.b, .int .u64 (t)] 61 := Blk.grown (by (repeat' (first | (with_reducible (first | assumption | exact Blk.alloc_new _ _ _ (by first | rfl | (simp; done) | omega) | apply Blk.drewN | apply Blk.drew | apply Blk.alloc_old | apply Blk.set_same | apply Blk.set_other)) | (show (_ : Nat) ≠ _; first | omega | (simp; done) | (simp; omega)) | ((simp only [List.setIfInBounds_toArray, List.set_cons_succ, List.set_cons_zero]); (with_reducible exact rfl)) | (with_reducible exact rfl) | (show (_ : Array Value) = _; exact rfl)))) hgrow4 hneX; have g4 : Below w.heap.size w w4 := below_grown (by (repeat' (first | (with_reducible (first | exact Below.refl _ _ | assumption | refine below_drewN ?_ _ | refine Below.drew ?_ | refine Below.alloc ?_ ?_ _ | refine Below.setCell ?_ ?_ _)) | go_size))) hgrow4 (by first | omega | (simp; omega)) (fun x hx => by simp [Value.ownBlock] at hx; omega); have H4 : HoldW w4 (NX + 1) (.slice (some ⟨gg4, 0, none⟩) (ws.length + 1) cap4) (ws ++ [⟨now + x0, total⟩]) := (by unfold HoldW; rw [List.length_append, flatw_app]; exact hown4); replace cC := C4.cell; replace fC := C4.frozen; replace zC := C4.size; replace cX := X4.cell; replace fX := X4.frozen; replace zX := X4.size; clear hgrow4 hown4 hat4)
          refine (uwake_any ⟨true, r, t⟩ ⟨true, r1, t1⟩ m d n (now + x0) total _ hm hd hn (by omega) (by omega) or' Hcap.out).mono ?_
          rintro e w5 ⟨rfl, hb5⟩
          have H5 := (H4.below (by (repeat' (first | (with_reducible (first | exact Below.refl _ _ | assumption | refine below_drewN ?_ _ | refine Below.drew ?_ | refine Below.alloc ?_ ?_ _ | refine Below.setCell ?_ ?_ _)) | go_size)))).below hb5
          have C5 : Blk w5 (w.heap.size) #[.int .u64 m, .int .u64 d, .int .u64 n] 32 := Blk.below (by (repeat' (first | (with_reducible (first | assumption | exact Blk.alloc_new _ _ _ (by first | rfl | (simp; done) | omega) | apply Blk.drewN | apply Blk.drew | apply Blk.alloc_old | apply Blk.set_same | apply Blk.set_other)) | (show (_ : Nat) ≠ _; first | omega | (simp; done) | (simp; omega)) | ((simp only [List.setIfInBounds_toArray, List.set_cons_succ, List.set_cons_zero]); (with_reducible exact rfl)) | (with_reducible exact rfl) | (show (_ : Array Value) = _; exact rfl)))) hb5 (by first | (simp; done) | omega | (simp; omega))
          have X5 : Blk w5 (NX) #[.bool true, .int .u64 r.f.X, .int .u64 (hi (r.f.Y)), .int .u64 (lo (r.f.Y)), .int .u64 r.f.M, .int .u64 r.t.X, .int .u64 (hi (r.t.Y)), .int .u64 (lo (r.t.Y)), .int .u64 r.t.M, .bool r.b, .int .u64 (t)] 61 := Blk.below (by (repeat' (first | (with_reducible (first | assumption | exact Blk.alloc_new _ _ _ (by first | rfl | (simp; done) | omega) | apply Blk.drewN | apply Blk.drew | apply Blk.alloc_old | apply Blk.set_same | apply Blk.set_other)) | (show (_ : Nat) ≠ _; first | omega | (simp; done) | (simp; omega)) | ((simp only [List.setIfInBounds_toArray, List.set_cons_succ, List.set_cons_zero]); (with_reducible exact rfl)) | (with_reducible exact rfl) | (show (_ : Array Value) = _; exact rfl)))) hb5 (by first | (simp; done) | omega | (simp; omega))
          have g5 : Below w.heap.size w w5 := by refine Below.trans ?_ (hb5.mono ?_) <;> (repeat' (first | (with_reducible (first | exact Below.refl _ _ | assumption | refine below_drewN ?_ _ | refine Below.drew ?_ | refine Below.alloc ?_ ?_ _ | refine Below.setCell ?_ ?_ _)) | go_size))
          have hz5 := hb5.size
          (try simp at hz5)
          clear hb5
          replace cC := C5.cell
          replace fC := C5.frozen
          replace zC := C5.size
          replace cX := X5.cell
          replace fX := X5.frozen
          replace zX := X5.size
          go_wp2_with (refine store_blkk 61 (.tmp 9) (.tmp 70) NX #[.bool true, .int .u64 r.f.X, .int .u64 (hi (r.f.Y)), .int .u64 (lo (r.f.Y)), .int .u64 r.f.M, .int .u64 r.t.X, .int .u64 (hi (r.t.Y)), .int .u64 (lo (r.t.Y)), .int .u64 r.t.M, .bool r.b, .int .u64 (t)] #[.bool true, .int .u64 r1.f.X, .int .u64 (hi (r1.f.Y)), .int .u64 (lo (r1.f.Y)), .int .u64 r1.f.M, .int .u64 r1.t.X, .int .u64 (hi (r1.t.Y)), .int .u64 (lo (r1.t.Y)), .int .u64 r1.t.M, .bool r1.b, .int .u64 (t1)] 61 (by rfl) (by rfl) (by rfl) (by rfl) (by (repeat' (first | (with_reducible (first | assumption | exact Blk.alloc_new _ _ _ (by first | rfl | (simp; done) | omega) | apply Blk.drewN | apply Blk.drew | apply Blk.alloc_old | apply Blk.set_same | apply Blk.set_other)) | (show (_ : Nat) ≠ _; first | omega | (simp; done) | (simp; omega)) | ((simp only [List.setIfInBounds_toArray, List.set_cons_succ, List.set_cons_zero]); (with_reducible exact rfl)) | (with_reducible exact rfl) | (show (_ : Array Value) = _; exact rfl)))) rfl (by kernel_rfl) (by simp [Value.oneCell']) ?_; intro w6 X6 k6 s6; have C6 := Blk.kept (show Blk _ w.heap.size #[.int .u64 m, .int .u64 d, .int .u64 n] 32 from (by (repeat' (first | (with_reducible (first | assumption | exact Blk.alloc_new _ _ _ (by first | rfl | (simp; done) | omega) | apply Blk.drewN | apply Blk.drew | apply Blk.alloc_old | apply Blk.set_same | apply Blk.set_other)) | (show (_ : Nat) ≠ _; first | omega | (simp; done) | (simp; omega)) | ((simp only [List.setIfInBounds_toArray, List.set_cons_succ, List.set_cons_zero]); (with_reducible exact rfl)) | (with_reducible exact rfl) | (show (_ : Array Value) = _; exact rfl))))) k6 (by omega); have H6 := (H5.below (by (repeat' (first | (with_reducible (first | exact Below.refl _ _ | assumption | refine below_drewN ?_ _ | refine Below.drew ?_ | refine Below.alloc ?_ ?_ _ | refine Below.setCell ?_ ?_ _)) | go_size)))).kept k6 (by omega); have g6 : Below w.heap.size w w6 := Below.trans (by (repeat' (first | (with_reducible (first | exact Below.refl _ _ | assumption | refine below_drewN ?_ _ | refine Below.drew ?_ | refine Below.alloc ?_ ?_ _ | refine Below.setCell ?_ ?_ _)) | go_size))) (k6.1.mono (by omega)); clear k6; replace cC := C6.cell; replace fC := C6.frozen; replace zC := C6.size; replace cX := X6.cell; replace fX := X6.frozen; replace zX := X6.size)
          go_roundw
          case rel => exact ⟨k + 1, now + x0, total, r1, t1, ws ++ [⟨now + x0, total⟩], by omega, by go_num, rfl, rfl, by (repeat' (first | (with_reducible (first | exact Below.refl _ _ | assumption | refine below_drewN ?_ _ | refine Below.drew ?_ | refine Below.alloc ?_ ?_ _ | refine Below.setCell ?_ ?_ _)) | go_size)), by (repeat' (first | (with_reducible (first | assumption | exact Blk.alloc_new _ _ _ (by first | rfl | (simp; done) | omega) | apply Blk.drewN | apply Blk.drew | apply Blk.alloc_old | apply Blk.set_same | apply Blk.set_other)) | (show (_ : Nat) ≠ _; first | omega | (simp; done) | (simp; omega)) | ((simp only [List.setIfInBounds_toArray, List.set_cons_succ, List.set_cons_zero]); (with_reducible exact rfl)) | (with_reducible exact rfl) | (show (_ : Array Value) = _; exact rfl))), by (repeat' (first | (with_reducible (first | assumption | exact Blk.alloc_new _ _ _ (by first | rfl | (simp; done) | omega) | apply Blk.drewN | apply Blk.drew | apply Blk.alloc_old | apply Blk.set_same | apply Blk.set_other)) | (show (_ : Nat) ≠ _; first | omega | (simp; done) | (simp; omega)) | ((simp only [List.setIfInBounds_toArray, List.set_cons_succ, List.set_cons_zero]); (with_reducible exact rfl)) | (with_reducible exact rfl) | (show (_ : Array Value) = _; exact rfl))), H6.below (by (repeat' (first | (with_reducible (first | exact Below.refl _ _ | assumption | refine below_drewN ?_ _ | refine Below.drew ?_ | refine Below.alloc ?_ ?_ _ | refine Below.setCell ?_ ?_ _)) | go_size))), by simp, by simp; omega, by omega, by omega, HW.out⟩
          case measure => simp [intOf]; omega
        have dz : (kd_ == 0) = false := beq_eq_false_iff_ne.2 hz
        by_cases c1 : ln < 1
        · have d4 : decide (ln < 1) = true := decide_eq_true c1
          go_wp2
          go_roundw
          case rel => exact ⟨k + 1, now + x0, total, r, t, ws, by omega, by go_num, rfl, rfl, by (repeat' (first | (with_reducible (first | exact Below.refl _ _ | assumption | refine below_drewN ?_ _ | refine Below.drew ?_ | refine Below.alloc ?_ ?_ _ | refine Below.setCell ?_ ?_ _)) | go_size)), by (repeat' (first | (with_reducible (first | assumption | exact Blk.alloc_new _ _ _ (by first | rfl | (simp; done) | omega) | apply Blk.drewN | apply Blk.drew | apply Blk.alloc_old | apply Blk.set_same | apply Blk.set_other)) | (show (_ : Nat) ≠ _; first | omega | (simp; done) | (simp; omega)) | ((simp only [List.setIfInBounds_toArray, List.set_cons_succ, List.set_cons_zero]); (with_reducible exact rfl)) | (with_reducible exact rfl) | (show (_ : Array Value) = _; exact rfl))), by (repeat' (first | (with_reducible (first | assumption | exact Blk.alloc_new _ _ _ (by first | rfl | (simp; done) | omega) | apply Blk.drewN | apply Blk.drew | apply Blk.alloc_old | apply Blk.set_same | apply Blk.set_other)) | (show (_ : Nat) ≠ _; first | omega | (simp; done) | (simp; omega)) | ((simp only [List.setIfInBounds_toArray, List.set_cons_succ, List.set_cons_zero]); (with_reducible exact rfl)) | (with_reducible exact rfl) | (show (_ : Array Value) = _; exact rfl))), H0.below (by (repeat' (first | (with_reducible (first | exact Below.refl _ _ | assumption | refine below_drewN ?_ _ | refine Below.drew ?_ | refine Below.alloc ?_ ?_ _ | refine Below.setCell ?_ ?_ _)) | go_size))), hwl, by omega, by omega, by omega, HI1.out⟩
          case measure => simp [intOf]; omega
        have d4 : decide (ln < 1) = false := decide_eq_false c1
        by_cases c2 : L < ln
        · have d5 : decide (L < ln) = true := decide_eq_true c2
          go_wp2
          go_roundw
          case rel => exact ⟨k + 1, now + x0, total, r, t, ws, by omega, by go_num, rfl, rfl, by (repeat' (first | (with_reducible (first | exact Below.refl _ _ | assumption | refine below_drewN ?_ _ | refine Below.drew ?_ | refine Below.alloc ?_ ?_ _ | refine Below.setCell ?_ ?_ _)) | go_size)), by (repeat' (first | (with_reducible (first | assumption | exact Blk.alloc_new _ _ _ (by first | rfl | (simp; done) | omega) | apply Blk.drewN | apply Blk.drew | apply Blk.alloc_old | apply Blk.set_same | apply Blk.set_other)) | (show (_ : Nat) ≠ _; first | omega | (simp; done) | (simp; omega)) | ((simp only [List.setIfInBounds_toArray, List.set_cons_succ, List.set_cons_zero]); (with_reducible exact rfl)) | (with_reducible exact rfl) | (show (_ : Array Value) = _; exact rfl))), by (repeat' (first | (with_reducible (first | assumption | exact Blk.alloc_new _ _ _ (by first | rfl | (simp; done) | omega) | apply Blk.drewN | apply Blk.drew | apply Blk.alloc_old | apply Blk.set_same | apply Blk.set_other)) | (show (_ : Nat) ≠ _; first | omega | (simp; done) | (simp; omega)) | ((simp only [List.setIfInBounds_toArray, List.set_cons_succ, List.set_cons_zero]); (with_reducible exact rfl)) | (with_reducible exact rfl) | (show (_ : Array Value) = _; exact rfl))), H0.below (by (repeat' (first | (with_reducible (first | exact Below.refl _ _ | assumption | refine below_drewN ?_ _ | refine Below.drew ?_ | refine Below.alloc ?_ ?_ _ | refine Below.setCell ?_ ?_ _)) | go_size))), hwl, by omega, by omega, by omega, HI1.out⟩
          case measure => simp [intOf]; omega
        have d5 : decide (L < ln) = false := decide_eq_false c2
        by_cases c3 : now + x0 < t
        · have d6 : decide (now + x0 < t) = true := decide_eq_true c3
          go_wp2
          go_roundw
          case rel => exact ⟨k + 1, now + x0, total, r, t, ws, by omega, by go_num, rfl, rfl, by (repeat' (first | (with_reducible (first | exact Below.refl _ _ | assumption | refine below_drewN ?_ _ | refine Below.drew ?_ | refine Below.alloc ?_ ?_ _ | refine Below.setCell ?_ ?_ _)) | go_size)), by (repeat' (first | (with_reducible (first | assumption | exact Blk.alloc_new _ _ _ (by first | rfl | (simp; done) | omega) | apply Blk.drewN | apply Blk.drew | apply Blk.alloc_old | apply Blk.set_same | apply Blk.set_other)) | (show (_ : Nat) ≠ _; first | omega | (simp; done) | (simp; omega)) | ((simp only [List.setIfInBounds_toArray, List.set_cons_succ, List.set_cons_zero]); (with_reducible exact rfl)) | (with_reducible exact rfl) | (show (_ : Array Value) = _; exact rfl))), by (repeat' (first | (with_reducible (first | assumption | exact Blk.alloc_new _ _ _ (by first | rfl | (simp; done) | omega) | apply Blk.drewN | apply Blk.drew | apply Blk.alloc_old | apply Blk.set_same | apply Blk.set_other)) | (show (_ : Nat) ≠ _; first | omega | (simp; done) | (simp; omega)) | ((simp only [List.setIfInBounds_toArray, List.set_cons_succ, List.set_cons_zero]); (with_reducible exact rfl)) | (with_reducible exact rfl) | (show (_ : Array Value) = _; exact rfl))), H0.below (by (repeat' (first | (with_reducible (first | exact Below.refl _ _ | assumption | refine below_drewN ?_ _ | refine Below.drew ?_ | refine Below.alloc ?_ ?_ _ | refine Below.setCell ?_ ?_ _)) | go_size))), hwl, by omega, by omega, by omega, HI1.out⟩
          case measure => simp [intOf]; omega
        · have d6 : decide (now + x0 < t) = false := decide_eq_false c3
          have hwl' : IntKind.u64.wrap ln = ln := IntWalk.u64_in _ ⟨by omega, by omega⟩
          have hfit := HI1.out.fit (T := total + ln) (by omega)
          have hbd : ∀ v ∈ ws, ∀ s, sk m d n (now + x0 - v.at_) = s → total + ln - v.p ≤ min (s / 65536 + max L 0) 18446744073709551615 := fun v hv s hs => HI1.out.bound HL.out (by omega) (by omega) (by omega) (by omega) (by omega) hv hs
          obtain ⟨t2, ht2⟩ : ∃ x, r.reach ((total + ln) * 65536) = x := ⟨_, rfl⟩
          have Htk := hide (show CH.fit ⟨true, r, t⟩ (total + ln) = ⟨true, r, t2⟩ by unfold CH.fit; rw [← ht2]; rfl)
          rw [ht2] at hfit
          have HI2 := hide (And.intro hfit hbd); clear hfit hbd ht2
          go_wp2_with fail
          refine (utook_any ⟨true, r, t⟩ ⟨true, r, t2⟩ (total + ln) _ (by omega) or' Htk.out).mono ?_
          rintro e w5 ⟨rfl, hb5⟩
          have H5 := (H0.below (by (repeat' (first | (with_reducible (first | exact Below.refl _ _ | assumption | refine below_drewN ?_ _ | refine Below.drew ?_ | refine Below.alloc ?_ ?_ _ | refine Below.setCell ?_ ?_ _)) | go_size)))).below hb5
          have C5 : Blk w5 (w.heap.size) #[.int .u64 m, .int .u64 d, .int .u64 n] 32 := Blk.below (by (repeat' (first | (with_reducible (first | assumption | exact Blk.alloc_new _ _ _ (by first | rfl | (simp; done) | omega) | apply Blk.drewN | apply Blk.drew | apply Blk.alloc_old | apply Blk.set_same | apply Blk.set_other)) | (show (_ : Nat) ≠ _; first | omega | (simp; done) | (simp; omega)) | ((simp only [List.setIfInBounds_toArray, List.set_cons_succ, List.set_cons_zero]); (with_reducible exact rfl)) | (with_reducible exact rfl) | (show (_ : Array Value) = _; exact rfl)))) hb5 (by first | (simp; done) | omega | (simp; omega))
          have X5 : Blk w5 (NX) #[.bool true, .int .u64 r.f.X, .int .u64 (hi (r.f.Y)), .int .u64 (lo (r.f.Y)), .int .u64 r.f.M, .int .u64 r.t.X, .int .u64 (hi (r.t.Y)), .int .u64 (lo (r.t.Y)), .int .u64 r.t.M, .bool r.b, .int .u64 (t)] 61 := Blk.below (by (repeat' (first | (with_reducible (first | assumption | exact Blk.alloc_new _ _ _ (by first | rfl | (simp; done) | omega) | apply Blk.drewN | apply Blk.drew | apply Blk.alloc_old | apply Blk.set_same | apply Blk.set_other)) | (show (_ : Nat) ≠ _; first | omega | (simp; done) | (simp; omega)) | ((simp only [List.setIfInBounds_toArray, List.set_cons_succ, List.set_cons_zero]); (with_reducible exact rfl)) | (with_reducible exact rfl) | (show (_ : Array Value) = _; exact rfl)))) hb5 (by first | (simp; done) | omega | (simp; omega))
          have g5 : Below w.heap.size w w5 := by refine Below.trans ?_ (hb5.mono ?_) <;> (repeat' (first | (with_reducible (first | exact Below.refl _ _ | assumption | refine below_drewN ?_ _ | refine Below.drew ?_ | refine Below.alloc ?_ ?_ _ | refine Below.setCell ?_ ?_ _)) | go_size))
          have hz5 := hb5.size
          (try simp at hz5)
          clear hb5
          replace cC := C5.cell
          replace fC := C5.frozen
          replace zC := C5.size
          replace cX := X5.cell
          replace fX := X5.frozen
          replace zX := X5.size
          go_wp2_with (refine store_blkk 61 (.tmp 9) (.tmp 93) NX #[.bool true, .int .u64 r.f.X, .int .u64 (hi (r.f.Y)), .int .u64 (lo (r.f.Y)), .int .u64 r.f.M, .int .u64 r.t.X, .int .u64 (hi (r.t.Y)), .int .u64 (lo (r.t.Y)), .int .u64 r.t.M, .bool r.b, .int .u64 (t)] #[.bool true, .int .u64 r.f.X, .int .u64 (hi (r.f.Y)), .int .u64 (lo (r.f.Y)), .int .u64 r.f.M, .int .u64 r.t.X, .int .u64 (hi (r.t.Y)), .int .u64 (lo (r.t.Y)), .int .u64 r.t.M, .bool r.b, .int .u64 (t2)] 61 (by rfl) (by rfl) (by rfl) (by rfl) (by (repeat' (first | (with_reducible (first | assumption | exact Blk.alloc_new _ _ _ (by first | rfl | (simp; done) | omega) | apply Blk.drewN | apply Blk.drew | apply Blk.alloc_old | apply Blk.set_same | apply Blk.set_other)) | (show (_ : Nat) ≠ _; first | omega | (simp; done) | (simp; omega)) | ((simp only [List.setIfInBounds_toArray, List.set_cons_succ, List.set_cons_zero]); (with_reducible exact rfl)) | (with_reducible exact rfl) | (show (_ : Array Value) = _; exact rfl)))) rfl (by kernel_rfl) (by simp [Value.oneCell']) ?_; intro w6 X6 k6 s6; have C6 := Blk.kept (show Blk _ w.heap.size #[.int .u64 m, .int .u64 d, .int .u64 n] 32 from (by (repeat' (first | (with_reducible (first | assumption | exact Blk.alloc_new _ _ _ (by first | rfl | (simp; done) | omega) | apply Blk.drewN | apply Blk.drew | apply Blk.alloc_old | apply Blk.set_same | apply Blk.set_other)) | (show (_ : Nat) ≠ _; first | omega | (simp; done) | (simp; omega)) | ((simp only [List.setIfInBounds_toArray, List.set_cons_succ, List.set_cons_zero]); (with_reducible exact rfl)) | (with_reducible exact rfl) | (show (_ : Array Value) = _; exact rfl))))) k6 (by omega); have H6 := (H5.below (by (repeat' (first | (with_reducible (first | exact Below.refl _ _ | assumption | refine below_drewN ?_ _ | refine Below.drew ?_ | refine Below.alloc ?_ ?_ _ | refine Below.setCell ?_ ?_ _)) | go_size)))).kept k6 (by omega); have g6 : Below w.heap.size w w6 := Below.trans (by (repeat' (first | (with_reducible (first | exact Below.refl _ _ | assumption | refine below_drewN ?_ _ | refine Below.drew ?_ | refine Below.alloc ?_ ?_ _ | refine Below.setCell ?_ ?_ _)) | go_size))) (k6.1.mono (by omega)); clear k6; replace cC := C6.cell; replace fC := C6.frozen; replace zC := C6.size; replace cX := X6.cell; replace fX := X6.frozen; replace zX := X6.size)
          go_loopw [96] (fun i wi => IRel m d n r t2 NX ws.length (.slice (some ⟨g, 0, none⟩) ws.length cp) ws w i wi) (fun i _ => ws.length - (intOf i).toNat)
          case atStart => exact ⟨0, Nat.zero_le _, rfl, by (repeat' (first | (with_reducible (first | exact Below.refl _ _ | assumption | refine below_drewN ?_ _ | refine Below.drew ?_ | refine Below.alloc ?_ ?_ _ | refine Below.setCell ?_ ?_ _)) | go_size)), by (repeat' (first | (with_reducible (first | assumption | exact Blk.alloc_new _ _ _ (by first | rfl | (simp; done) | omega) | apply Blk.drewN | apply Blk.drew | apply Blk.alloc_old | apply Blk.set_same | apply Blk.set_other)) | (show (_ : Nat) ≠ _; first | omega | (simp; done) | (simp; omega)) | ((simp only [List.setIfInBounds_toArray, List.set_cons_succ, List.set_cons_zero]); (with_reducible exact rfl)) | (with_reducible exact rfl) | (show (_ : Array Value) = _; exact rfl))), by (repeat' (first | (with_reducible (first | assumption | exact Blk.alloc_new _ _ _ (by first | rfl | (simp; done) | omega) | apply Blk.drewN | apply Blk.drew | apply Blk.alloc_old | apply Blk.set_same | apply Blk.set_other)) | (show (_ : Nat) ≠ _; first | omega | (simp; done) | (simp; omega)) | ((simp only [List.setIfInBounds_toArray, List.set_cons_succ, List.set_cons_zero]); (with_reducible exact rfl)) | (with_reducible exact rfl) | (show (_ : Array Value) = _; exact rfl))), H6.below (by (repeat' (first | (with_reducible (first | exact Below.refl _ _ | assumption | refine below_drewN ?_ _ | refine Below.drew ?_ | refine Below.alloc ?_ ?_ _ | refine Below.setCell ?_ ?_ _)) | go_size)))⟩
          case round =>
            obtain ⟨j, hj, rfl, gi, C1, X1, H1⟩ := hrel
            replace cC := C1.cell; replace fC := C1.frozen; replace zC := C1.size
            replace cX := X1.cell; replace fX := X1.frozen; replace zX := X1.size
            have gis := gi.size
            have nxi : NX < wr.heap.size := zX
            by_cases hjl : j < ws.length
            · obtain ⟨vq, hv⟩ : ∃ v, ws[j]? = some v := ⟨_, List.getElem?_eq_getElem hjl⟩
              obtain ⟨v0, v1⟩ := H1.at_ hv
              have hmem := List.mem_of_getElem? hv
              obtain ⟨s, hs⟩ : ∃ s, sk m d n (now + x0 - vq.at_) = s := ⟨_, rfl⟩
              have hb := HI2.out.2 vq hmem s hs
              have hvr := HI2.out.1.2.2.2 vq hmem
              obtain ⟨z, e, hf⟩ := FlR.ex s 65536 (by omega)
              have s1 : In128 s := by rw [← hs]; exact sk_in hm.1 hd.1 hn.1 (by omega) (by omega)
              have Hs := hide hs; have Hf := hide hf; clear hs hf
              obtain ⟨q, hq⟩ : ∃ q, min (s / 65536 + max L 0) 18446744073709551615 = q := ⟨_, rfl⟩
              rw [hq] at hb
              have Hq := hide hq; clear hq
              clear hv
              have dd : decide (q < total + ln - vq.p) = false := decide_eq_false (by omega)
              go_upto_region 21 with (fail)
              refine wp_forget (fun v => Below wr.heap.size wr v ∧ Blk v (w.heap.size) #[.int .u64 m, .int .u64 d, .int .u64 n] 32 ∧ Blk v (wr.heap.size) #[.int .u64 vq.at_, .int .u64 vq.p] 78) ⟨by (repeat' (first | (with_reducible (first | exact Below.refl _ _ | assumption | refine below_drewN ?_ _ | refine Below.drew ?_ | refine Below.alloc ?_ ?_ _ | refine Below.setCell ?_ ?_ _)) | go_size)), by (repeat' (first | (with_reducible (first | assumption | exact Blk.alloc_new _ _ _ (by first | rfl | (simp; done) | omega) | apply Blk.drewN | apply Blk.drew | apply Blk.alloc_old | apply Blk.set_same | apply Blk.set_other)) | (show (_ : Nat) ≠ _; first | omega | (simp; done) | (simp; omega)) | ((simp only [List.setIfInBounds_toArray, List.set_cons_succ, List.set_cons_zero]); (with_reducible exact rfl)) | (with_reducible exact rfl) | (show (_ : Array Value) = _; exact rfl))), by (repeat' (first | (with_reducible (first | assumption | exact Blk.alloc_new _ _ _ (by first | rfl | (simp; done) | omega) | apply Blk.drewN | apply Blk.drew | apply Blk.alloc_old | apply Blk.set_same | apply Blk.set_other)) | (show (_ : Nat) ≠ _; first | omega | (simp; done) | (simp; omega)) | ((simp only [List.setIfInBounds_toArray, List.set_cons_succ, List.set_cons_zero]); (with_reducible exact rfl)) | (with_reducible exact rfl) | (show (_ : Array Value) = _; exact rfl)))⟩ ?_
              rintro v8 ⟨gv8, Cv8, Sv8⟩
              have qC8 := blk_calm Cv8
              have qS8 := blk_calm Sv8
              refine wp_region_quiet_below (by kernel_rfl) (by kernel_rfl) ?_
              repeat (go_big_quiet_step ((first
                  | (go_at_call 28; (with_reducible exact Calls.regrown_of (most_any m d n (now + x0 - vq.at_) L s z e _ hm.1 hd.1 hn.1 (by omega) hL0 Hs.out s1 Hf.out q Hq.out))))))
              refine wpQuiet_nil ?_
              intro _ hw'
              obtain ⟨pq, hw''⟩ := hw'
              subst hw''
              have hb8 := below_regrown v8 pq.d pq.os
              generalize Sort.grow (redrawn v8 pq.d) pq.os = w8 at *
              have C8 : Blk w8 (w.heap.size) #[.int .u64 m, .int .u64 d, .int .u64 n] 32 := Blk.below Cv8 hb8 Cv8.size
              have S8 : Blk w8 (wr.heap.size) #[.int .u64 vq.at_, .int .u64 vq.p] 78 := Blk.below Sv8 hb8 Sv8.size
              have g8 : Below wr.heap.size wr w8 := gv8.trans (hb8.mono gv8.size)
              have hz8 : wr.heap.size ≤ w8.heap.size := g8.size
              clear hb8 gv8 Cv8 qC8 Sv8 qS8
              replace cC := C8.cell
              replace fC := C8.frozen
              replace zC := C8.size
              replace cS := S8.cell
              replace fS := S8.frozen
              replace zS := S8.size
              have gw := Below.trans gi (g8.mono gis)
              have X9 := X1.below g8 nxi
              have H9 := H1.below g8
              go_wp2
              go_roundw
              case rel => exact ⟨j + 1, by omega, by go_num, by (repeat' (first | (with_reducible (first | exact Below.refl _ _ | assumption | refine below_drewN ?_ _ | refine Below.drew ?_ | refine Below.alloc ?_ ?_ _ | refine Below.setCell ?_ ?_ _)) | go_size)), by (repeat' (first | (with_reducible (first | assumption | exact Blk.alloc_new _ _ _ (by first | rfl | (simp; done) | omega) | apply Blk.drewN | apply Blk.drew | apply Blk.alloc_old | apply Blk.set_same | apply Blk.set_other)) | (show (_ : Nat) ≠ _; first | omega | (simp; done) | (simp; omega)) | ((simp only [List.setIfInBounds_toArray, List.set_cons_succ, List.set_cons_zero]); (with_reducible exact rfl)) | (with_reducible exact rfl) | (show (_ : Array Value) = _; exact rfl))), by (repeat' (first | (with_reducible (first | assumption | exact Blk.alloc_new _ _ _ (by first | rfl | (simp; done) | omega) | apply Blk.drewN | apply Blk.drew | apply Blk.alloc_old | apply Blk.set_same | apply Blk.set_other)) | (show (_ : Nat) ≠ _; first | omega | (simp; done) | (simp; omega)) | ((simp only [List.setIfInBounds_toArray, List.set_cons_succ, List.set_cons_zero]); (with_reducible exact rfl)) | (with_reducible exact rfl) | (show (_ : Array Value) = _; exact rfl))), H9.below (by (repeat' (first | (with_reducible (first | exact Below.refl _ _ | assumption | refine below_drewN ?_ _ | refine Below.drew ?_ | refine Below.alloc ?_ ?_ _ | refine Below.setCell ?_ ?_ _)) | go_size)))⟩
              case measure => simp [intOf]; omega
            · go_wp2
              go_roundw
              case rel => exact ⟨k + 1, now + x0, total + ln, r, t2, ws, by omega, by go_num, rfl, rfl, by (repeat' (first | (with_reducible (first | exact Below.refl _ _ | assumption | refine below_drewN ?_ _ | refine Below.drew ?_ | refine Below.alloc ?_ ?_ _ | refine Below.setCell ?_ ?_ _)) | go_size)), by (repeat' (first | (with_reducible (first | assumption | exact Blk.alloc_new _ _ _ (by first | rfl | (simp; done) | omega) | apply Blk.drewN | apply Blk.drew | apply Blk.alloc_old | apply Blk.set_same | apply Blk.set_other)) | (show (_ : Nat) ≠ _; first | omega | (simp; done) | (simp; omega)) | ((simp only [List.setIfInBounds_toArray, List.set_cons_succ, List.set_cons_zero]); (with_reducible exact rfl)) | (with_reducible exact rfl) | (show (_ : Array Value) = _; exact rfl))), by (repeat' (first | (with_reducible (first | assumption | exact Blk.alloc_new _ _ _ (by first | rfl | (simp; done) | omega) | apply Blk.drewN | apply Blk.drew | apply Blk.alloc_old | apply Blk.set_same | apply Blk.set_other)) | (show (_ : Nat) ≠ _; first | omega | (simp; done) | (simp; omega)) | ((simp only [List.setIfInBounds_toArray, List.set_cons_succ, List.set_cons_zero]); (with_reducible exact rfl)) | (with_reducible exact rfl) | (show (_ : Array Value) = _; exact rfl))), H1.below (by (repeat' (first | (with_reducible (first | exact Below.refl _ _ | assumption | refine below_drewN ?_ _ | refine Below.drew ?_ | refine Below.alloc ?_ ?_ _ | refine Below.setCell ?_ ?_ _)) | go_size))), hwl, by omega, by omega, by omega, HI2.out.1⟩
              case measure => simp [intOf]; omega
      · go_wp2_with fail
        refine (sixty_true _).mono ?_
        rintro e w5 ⟨rfl, hb5⟩
        have g5 : Below w.heap.size w w5 := by refine Below.trans ?_ (hb5.mono ?_) <;> (repeat' (first | (with_reducible (first | exact Below.refl _ _ | assumption | refine below_drewN ?_ _ | refine Below.drew ?_ | refine Below.alloc ?_ ?_ _ | refine Below.setCell ?_ ?_ _)) | go_size))
        have hz5 := hb5.size
        (try simp at hz5)
        clear hb5
        go_wp2
        go_ret
        exact ⟨rfl, by (repeat' (first | (with_reducible (first | exact Below.refl _ _ | assumption | refine below_drewN ?_ _ | refine Below.drew ?_ | refine Below.alloc ?_ ?_ _ | refine Below.setCell ?_ ?_ _)) | go_size))⟩
end Go.Proofs.Ytnkpoelljfbefaa
