/-
  FlowCounts, in part. Conditions: what the slice holds is known.
-/
import Derived.Test.YtljpiofpfankoaaFlAB
import Derived.Test.YtljpiofpfankoaaGuarG
namespace Go.Proofs.Ytljpiofpfankoaa
open Go.RowKit Go.Sort
set_option linter.unusedVariables false
set_option linter.unusedSimpArgs false
theorem rfeqIn (d : Nat) (x y : Int) (k : K4) (v : World) : (Op.equalIn (d + 4) 90 (.agg #[.int .u16 k.a, .int .u16 k.b, .int .u16 k.c, .int .u16 k.d, .int .u64 x, .int .u64 y]) (.agg #[.int .u16 k.a, .int .u16 k.b, .int .u16 k.c, .int .u16 k.d, .int .u64 x, .int .u64 y])).run Try.prog v = .ok true v := by
  have a1 : ∀ w, (isAgg 43).run Try.prog w = .ok false w := fun _ => by kernel_rfl
  have a3 : ∀ w, (isAgg 48).run Try.prog w = .ok true w := fun _ => by kernel_rfl
  have s1 : ∀ w, (sizeOf 43).run Try.prog w = .ok 1 w := fun _ => by kernel_rfl
  have s3 : ∀ w, (sizeOf 48).run Try.prog w = .ok 4 w := fun _ => by kernel_rfl
  have e1 := fun w x y => u64_cell (d + 2) w x y
  have e3 := fun w => eqkIn (d + 1) k k w
  simp only [decide_true] at e3
  rw [run_equalIn_struct _ (d + 3) 90 _ _ (by kernel_rfl) (by kernel_rfl)]
  simp [Program.fieldsOf, Try.underlying90, go_sem, part, a1, a3, s1, s3, e1, e3]
theorem rfeq (f : FW) (v : World) : (binOp .eql 90 (fv f) (fv f)).run Try.prog v = .ok (.bool true) v := by
  rw [run_eql_struct, rfeqIn 9996 f.p f.b f.k v]; rfl
theorem rfneq (f : FW) (v : World) : (binOp .neq 90 (fv f) (fv f)).run Try.prog v = .ok (.bool false) v := by
  rw [run_neq_struct, rfeqIn 9996 f.p f.b f.k v]; rfl
theorem ffneq (f : FW) (v : World) : (binOp .neq 88 (fv f) (fv f)).run Try.prog v = .ok (.bool false) v := by
  rw [run_neq_struct, feqIn 9996 f.p f.b f.k v]; rfl
theorem kq9999 (k : K4) (v : World) : (Op.equalIn 9999 48 (.agg #[.int .u16 k.a, .int .u16 k.b, .int .u16 k.c, .int .u16 k.d]) (.agg #[.int .u16 k.a, .int .u16 k.b, .int .u16 k.c, .int .u16 k.d])).run Try.prog v = .ok true v := by
  have := eqkIn 9997 k k v
  rw [decide_eq_true rfl] at this
  exact this
theorem fNew2 (w : World) : Calls Try.prog 32 #[] w fun e w' => ∃ M T : Nat, e = .returned (.pointer (some ⟨T, 0, none⟩)) ∧ w.heap.size ≤ M ∧ M < T ∧ MapW w' M [] ∧ Blk w' T #[.map (some M)] 132 ∧ Below w.heap.size w w' :=
  (fNew w).mono fun _ _ ⟨h1, h2, h3, h4⟩ => ⟨_, _, h1, Nat.le_refl _, Nat.lt_succ_self _, ⟨#[], 0, h2, rfl, by simp, by simp⟩, h3, h4⟩
theorem FlowCounts_long (a : Option Addr) (len cap : Nat) (n : Int) (key : K4) (w : World) (h : 600 < len) :
    Calls Try.prog 9 #[.slice a len cap, .int .i64 n, .agg #[.int .u16 key.a, .int .u16 key.b, .int .u16 key.c, .int .u16 key.d]] w fun e w' => e = .returned (.bool true) ∧ Below w.heap.size w w' := by
  have d0 : decide (600 < (len : Int)) = true := decide_eq_true (by omega)
  have d0n : decide (600 < len) = true := decide_eq_true h
  go_enter Try.func9, Try.ntmps9
  go_wp2_with fail
  refine (names_true _).mono ?_
  rintro e w1 ⟨rfl, hb1⟩
  have g1 : Below w.heap.size w w1 := by refine Below.trans ?_ (hb1.mono ?_) <;> (repeat' (first | (with_reducible (first | exact Below.refl _ _ | assumption | refine below_drewN ?_ _ | refine Below.drew ?_ | refine Below.alloc ?_ ?_ _ | refine Below.setCell ?_ ?_ _)) | go_size))
  have hz1 := hb1.size
  (try simp at hz1)
  clear hb1
  go_wp2
  go_ret
  exact ⟨rfl, by (repeat' (first | (with_reducible (first | exact Below.refl _ _ | assumption | refine below_drewN ?_ _ | refine Below.drew ?_ | refine Below.alloc ?_ ?_ _ | refine Below.setCell ?_ ?_ _)) | go_size))⟩
set_option maxRecDepth 100000 in
set_option maxHeartbeats 16000000 in
theorem FlowCounts_main (a : Option Addr) (b off cap : Nat) (E : List SN45) (n : Int) (key : K4) (w : World) (ha : E ≠ [] → a = some ⟨b, off, none⟩) (hb0 : E ≠ [] → b < w.heap.size) (hE : AtG 5 snVs w b off E) (hEr : ∀ e ∈ E, -9223372036854775808 ≤ e.n ∧ e.n ≤ 9223372036854775807) (hlen : E.length ≤ 600) (hnr : -9223372036854775808 ≤ n ∧ n ≤ 9223372036854775807) :
    Calls Try.prog 9 #[.slice a E.length cap, .int .i64 n, .agg #[.int .u16 key.a, .int .u16 key.b, .int .u16 key.c, .int .u16 key.d]] w fun e w' => e = .returned (.bool true) ∧ Below w.heap.size w w' := by
  have d0 : decide (600 < (E.length : Int)) = false := decide_eq_false (by omega)
  have d0n : decide (600 < E.length) = false := decide_eq_false (by omega)
  go_enter Try.func9, Try.ntmps9
  go_wp2_with fail
  refine (fNew2 _).mono ?_
  rintro e1 w1 ⟨M, T, rfl, hMge, hTM, M1, T1, hb1⟩
  have g1 : Below w.heap.size w w1 := Below.trans (by (repeat' (first | (with_reducible (first | exact Below.refl _ _ | assumption | refine below_drewN ?_ _ | refine Below.drew ?_ | refine Below.alloc ?_ ?_ _ | refine Below.setCell ?_ ?_ _)) | go_size))) (hb1.mono (by simp))
  have A1 : Blk w1 w.heap.size #[.int .u16 key.a, .int .u16 key.b, .int .u16 key.c, .int .u16 key.d] 48 := Blk.below (by (repeat' (first | (with_reducible (first | assumption | exact Blk.alloc_new _ _ _ (by first | rfl | (simp; done) | omega) | apply Blk.drewN | apply Blk.drew | apply Blk.alloc_old | apply Blk.set_same | apply Blk.set_other)) | (show (_ : Nat) ≠ _; first | omega | (simp; done) | (simp; omega)) | ((simp only [List.setIfInBounds_toArray, List.set_cons_succ, List.set_cons_zero]); (with_reducible exact rfl)) | (with_reducible exact rfl) | (show (_ : Array Value) = _; exact rfl)))) hb1 (by simp)
  have hMw : w.heap.size ≤ M := by simp at hMge; omega
  have hz1 := g1.size
  clear hMge
  go_wp2
  go_loopw [8, 27] (fun v i wr => ∃ (q : Nat) (L : List FW), q ≤ E.length ∧ i = .int .i64 q ∧ Tab L ∧ MapW wr M L ∧ Blk wr T #[.map (some M)] 132 ∧ HoldR wr w.heap.size v L ∧ Blk wr w.heap.size #[.int .u16 key.a, .int .u16 key.b, .int .u16 key.c, .int .u16 key.d] 48 ∧ Below w.heap.size w wr) (fun _ i _ => E.length - (intOf i).toNat)
  case atStart => exact ⟨0, [], Nat.zero_le _, rfl, Tab.nil, M1, T1, HoldG.nil _ _, A1, g1⟩
  case round =>
    obtain ⟨q, L, hq, rfl, hTab, M0, T0, H0, A0, g0⟩ := hrel
    have hl0 := g0.size
    by_cases hlt : q < E.length
    · obtain ⟨s, hs⟩ : ∃ s, E[q]? = some s := ⟨_, List.getElem?_eq_getElem hlt⟩
      have hne : E ≠ [] := by intro e; rw [e] at hlt; simp at hlt
      have hbw := hb0 hne
      obtain rfl := ha hne
      have y0 : wr.cell? ⟨b, off + q * 5, none⟩ = some (.int .u16 s.k.a) := (hE.below g0 hbw) q s hs 0 _ rfl
      have y1 : wr.cell? ⟨b, off + q * 5 + 1, none⟩ = some (.int .u16 s.k.b) := (hE.below g0 hbw) q s hs 1 _ rfl
      have y2 : wr.cell? ⟨b, off + q * 5 + 2, none⟩ = some (.int .u16 s.k.c) := (hE.below g0 hbw) q s hs 2 _ rfl
      have y3 : wr.cell? ⟨b, off + q * 5 + 3, none⟩ = some (.int .u16 s.k.d) := (hE.below g0 hbw) q s hs 3 _ rfl
      have y4 : wr.cell? ⟨b, off + q * 5 + 4, none⟩ = some (.int .i64 s.n) := (hE.below g0 hbw) q s hs 4 _ rfl
      have hqi : (q : Int) < (E.length : Int) := by omega
      have hqb : (q : Int) ≤ 600 := by omega
      have hsr := hEr s (List.mem_of_getElem? hs)
      obtain ⟨av, cv, rfl⟩ := H0.slice
      go_upto_region 8 with (fail)
      clear y0 y1 y2 y3 y4
      refine wp_forget (fun v => Below wr.heap.size wr v ∧ Blk v wr.heap.size #[.int .u16 s.k.a, .int .u16 s.k.b, .int .u16 s.k.c, .int .u16 s.k.d, .int .i64 s.n] 80) ⟨by (repeat' (first | (with_reducible (first | exact Below.refl _ _ | assumption | refine below_drewN ?_ _ | refine Below.drew ?_ | refine Below.alloc ?_ ?_ _ | refine Below.setCell ?_ ?_ _)) | go_size)), by (repeat' (first | (with_reducible (first | assumption | exact Blk.alloc_new _ _ _ (by first | rfl | (simp; done) | omega) | apply Blk.drewN | apply Blk.drew | apply Blk.alloc_old | apply Blk.set_same | apply Blk.set_other)) | (show (_ : Nat) ≠ _; first | omega | (simp; done) | (simp; omega)) | ((simp only [List.setIfInBounds_toArray, List.set_cons_succ, List.set_cons_zero]); (with_reducible exact rfl)) | (with_reducible exact rfl) | (show (_ : Array Value) = _; exact rfl)))⟩ ?_
      rintro v1 ⟨hv1, X1⟩
      have M1 := M0.below0 hv1
      have T1 := T0.below hv1 T0.size
      have H1 := H0.below hv1
      have A1 := A0.below hv1 A0.size
      have gv1 : Below w.heap.size w v1 := g0.trans (hv1.mono g0.size)
      have hzv := gv1.size
      have cX := X1.cell; have fX := X1.frozen; have zX := X1.size
      by_cases hneg : s.n < 0
      · have d1 : decide (s.n < 0) = true := decide_eq_true hneg
        have KA := hide (fAddNeg T M L s.k s.n v1 T1 M1 hTM hneg)
        clear hneg
        go_wp2_with fail
        refine KA.out.mono ?_
        rintro e2 w2 ⟨rfl, M2, ho2, hb2⟩
        have T2 := T1.kept2 M1 ho2
        have H2 := H1.kept2 M1 ho2
        have A2 := A1.kept2 M1 ho2
        have X2 := X1.kept2 M1 ho2
        have g2 : Below w.heap.size w w2 := gv1.trans (hb2.mono hMw)
        have hz2 := g2.size
        replace cX := X2.cell; replace fX := X2.frozen; replace zX := X2.size
        go_wp2
        go_roundw
        case rel => exact ⟨q + 1, L, by omega, by go_num, hTab, M2, T2, H2, A2, g2⟩
        case measure => simp [intOf]; omega
      · have d1 : decide (s.n < 0) = false := decide_eq_false hneg
        have KA := hide (fAddAny T M L s.k s.n v1 T1 M1 hTM (by omega))
        have htab2 := addR_tab hTab s.k s.n
        have KR := hide (fun (v : World) (val : Value) (hv : HoldR v w.heap.size val L) (hw : w.heap.size ≤ v.heap.size) => rAddAny L s.k s.n val w.heap.size v hv hw (by have := hTab.len; omega) (by omega))
        obtain ⟨L2, er, hadd⟩ : ∃ L2 er, addR L s.k s.n = (L2, er) := ⟨_, _, rfl⟩
        rw [hadd] at KA htab2
        have KR2 := hide (fun (v : World) (val : Value) (hv : HoldR v w.heap.size val L) (hw : w.heap.size ≤ v.heap.size) => by have h := KR.out v val hv hw; rw [hadd] at h; exact h)
        clear hneg KR hadd
        go_wp2_with fail
        refine KA.out.mono ?_
        rintro e2 w2 ⟨rfl, M2, ho2, hb2⟩
        have T2 := T1.kept2 M1 ho2
        have H2 := H1.kept2 M1 ho2
        have A2 := A1.kept2 M1 ho2
        have X2 := X1.kept2 M1 ho2
        have g2 : Below w.heap.size w w2 := gv1.trans (hb2.mono hMw)
        have hz2 := g2.size
        replace cX := X2.cell; replace fX := X2.frozen; replace zX := X2.size
        go_wp2_with fail
        refine (KR2.out _ _ H2 hz2).mono ?_
        rintro e3 w3 ⟨v3, rfl, H3, hb3⟩
        have M3 := M2.below0 hb3
        have T3 := T2.below hb3 T2.size
        have A3 := A2.below hb3 A2.size
        have g3 : Below w.heap.size w w3 := g2.trans (hb3.mono g2.size)
        have hz3 := g3.size
        go_wp2
        go_roundw
        case rel => exact ⟨q + 1, L2, by omega, by go_num, htab2, M3, T3, H3, A3, g3⟩
        case measure => simp [intOf]; omega
    · obtain rfl : q = E.length := by omega
      clear hlt hq
      have hL3 : L.length ≤ 300 := by have := hTab.len; omega
      obtain ⟨aw, cw, gw, rfl, hcw, haw, hgw, atw⟩ := HoldG.at H0 rvs_len
      have KH := hide (flHeavy T M L n wr T0 M0 hL3 hnr)
      go_wp2_with fail
      refine KH.out.mono ?_
      rintro e4 w4 ⟨S, ah, g, ch, m, rfl, hm, hperm, hsort, hmc, hca, hcg, hat, hb4⟩
      have M4 := M0.below0 hb4
      have T4 := T0.below hb4 T0.size
      have A4 := A0.below hb4 A0.size
      have g4 : Below w.heap.size w w4 := g0.trans (hb4.mono g0.size)
      have hz4 := g4.size
      have hmm : min (max n 0) (L.length : Int) = (m : Int) := by omega
      have hmL : m ≤ L.length := by omega
      have Hm := hide hm; have Hp := hide hperm; have Hs := hide hsort
      clear hm hperm hsort
      have KL := hide (fLen T M L w4 T4 M4.at)
      go_wp2_with fail
      refine KL.out.mono ?_
      rintro e5 w5 ⟨rfl, rfl⟩
      obtain ⟨w5, rfl⟩ : ∃ W, W = w4 := ⟨_, rfl⟩
      replace atw : AtG 6 rvs w5 gw 0 L := atw.below0 hb4 hgw
      have hgw5 : L ≠ [] → gw < w5.heap.size := fun h => Nat.lt_of_lt_of_le (hgw h) hb4.size
      have T5 := T4; have M5 := M4
      clear KH KL T0 M0 H0 A0 g0 hgw hb4 hl0 T4 M4
      have cT := T5.cell; have zT := T5.size
      go_wp2
      go_loopw [76] (fun i wr => ∃ q : Nat, q ≤ m ∧ i = .int .i64 q ∧ Below w5.heap.size w5 wr) (fun i _ => m - (intOf i).toNat)
      case atStart => exact ⟨0, Nat.zero_le _, rfl, by (repeat' (first | (with_reducible (first | exact Below.refl _ _ | assumption | refine below_drewN ?_ _ | refine Below.drew ?_ | refine Below.alloc ?_ ?_ _ | refine Below.setCell ?_ ?_ _)) | go_size))⟩
      case round =>
        obtain ⟨q, hqm, rfl, h5⟩ := hrel
        have g0 : Below w.heap.size w wr := g4.trans (h5.mono g4.size)
        have hl0 := g0.size
        by_cases hlt : q < m
        · have hSl : S.length = L.length := Hp.out.length_eq
          obtain ⟨f, hf⟩ : ∃ f, S[q]? = some f := ⟨_, List.getElem?_eq_getElem (by omega)⟩
          have hfL : f ∈ L := Hp.out.mem_iff.1 (List.mem_of_getElem? hf)
          have hne : L ≠ [] := by intro e; rw [e] at hfL; simp at hfL
          obtain rfl := hca hne
          obtain rfl := haw hne
          have hgg := hcg hne
          have hgw' := hgw5 hne
          obtain ⟨jj, hj1, hj2⟩ := List.getElem_of_mem hfL
          have hjf : L[jj]? = some f := by rw [List.getElem?_eq_getElem hj1, hj2]
          have hff : findF L f.k 0 = some (jj, f) := by have := findF_mem L 0 f jj hTab.nd hjf; rwa [Nat.zero_add] at this
          have hfx : fidx L f.k = (jj : Int) := by unfold fidx; rw [hff]
          have hgr : getR L f.k = f := by unfold getR; rw [hff]
          have hpl : ((L.countP fun g => heav g f : Nat) : Int) = (q : Int) := by rw [place_sorted Hp.out hTab.nd Hs.out q f hf]
          have y0 : wr.cell? ⟨g, 0 + q * 6 + 0, none⟩ = some (.int .u16 f.k.a) := (hat.below h5 hgg) q f hf 0 _ rfl; simp only [Nat.zero_add, Nat.add_zero] at y0
          have y1 : wr.cell? ⟨g, 0 + q * 6 + 1, none⟩ = some (.int .u16 f.k.b) := (hat.below h5 hgg) q f hf 1 _ rfl; simp only [Nat.zero_add, Nat.add_zero] at y1
          have y2 : wr.cell? ⟨g, 0 + q * 6 + 2, none⟩ = some (.int .u16 f.k.c) := (hat.below h5 hgg) q f hf 2 _ rfl; simp only [Nat.zero_add, Nat.add_zero] at y2
          have y3 : wr.cell? ⟨g, 0 + q * 6 + 3, none⟩ = some (.int .u16 f.k.d) := (hat.below h5 hgg) q f hf 3 _ rfl; simp only [Nat.zero_add, Nat.add_zero] at y3
          have y4 : wr.cell? ⟨g, 0 + q * 6 + 4, none⟩ = some (.int .u64 f.p) := (hat.below h5 hgg) q f hf 4 _ rfl; simp only [Nat.zero_add, Nat.add_zero] at y4
          have y5 : wr.cell? ⟨g, 0 + q * 6 + 5, none⟩ = some (.int .u64 f.b) := (hat.below h5 hgg) q f hf 5 _ rfl; simp only [Nat.zero_add, Nat.add_zero] at y5
          have hqi : (q : Int) < (m : Int) := by omega
          have hqb : (q : Int) ≤ 300 := by omega
          have hji : (jj : Int) < (L.length : Int) := by omega
          have hjb : (jj : Int) ≤ 300 := by omega
          have hjn : decide ((jj : Int) < 0) = false := decide_eq_false (by omega)
          clear hfL hj2 hff hSl
          go_upto_region 23 with (fail)
          clear y0 y1 y2 y3 y4 y5
          refine wp_forget (fun v => Below wr.heap.size wr v ∧ Blk v wr.heap.size #[.int .u16 f.k.a, .int .u16 f.k.b, .int .u16 f.k.c, .int .u16 f.k.d, .int .u64 f.p, .int .u64 f.b] 88) ⟨by (repeat' (first | (with_reducible (first | exact Below.refl _ _ | assumption | refine below_drewN ?_ _ | refine Below.drew ?_ | refine Below.alloc ?_ ?_ _ | refine Below.setCell ?_ ?_ _)) | go_size)), by (repeat' (first | (with_reducible (first | assumption | exact Blk.alloc_new _ _ _ (by first | rfl | (simp; done) | omega) | apply Blk.drewN | apply Blk.drew | apply Blk.alloc_old | apply Blk.set_same | apply Blk.set_other)) | (show (_ : Nat) ≠ _; first | omega | (simp; done) | (simp; omega)) | ((simp only [List.setIfInBounds_toArray, List.set_cons_succ, List.set_cons_zero]); (with_reducible exact rfl)) | (with_reducible exact rfl) | (show (_ : Array Value) = _; exact rfl)))⟩ ?_
          rintro v1 ⟨hv1, X1⟩
          have gv1 : Below w.heap.size w v1 := g0.trans (hv1.mono g0.size)
          have hzv := gv1.size
          have cX := X1.cell; have fX := X1.frozen; have zX := X1.size
          have hz1' : Below w5.heap.size w5 v1 := h5.trans (hv1.mono h5.size)
          have KF := hide (rFind L f.k (some ⟨gw, 0, none⟩) gw 0 cw jj v1 (fun _ => rfl) (fun _ => Nat.lt_of_lt_of_le hgw' hz1'.size) (atw.below hz1' hgw') (by omega) hfx)
          clear hfx
          go_wp2_with fail
          refine KF.out.mono ?_
          rintro e6 v2 ⟨rfl, hb6⟩
          have hv2 : Below v1.heap.size v1 v2 := hb6
          have X2 := X1.below hb6 X1.size
          have g2 : Below w.heap.size w v2 := gv1.trans (hb6.mono gv1.size)
          have hz2 := g2.size
          replace cX := X2.cell; replace fX := X2.frozen; replace zX := X2.size
          clear KF
          go_upto_region 24 with (fail)
          refine wp_region_guarG [.val (.int .i64 jj), .val (.bool false), .val (.bool false), .val (.slice (some ⟨gw, 0, none⟩) L.length cw), .val (.int .i64 jj), .val (.pointer (some ⟨gw, jj * 6, none⟩)), .val (.agg #[.int .u16 f.k.a, .int .u16 f.k.b, .int .u16 f.k.c, .int .u16 f.k.d, .int .u64 f.p, .int .u64 f.b]), .val (.agg #[.int .u16 f.k.a, .int .u16 f.k.b, .int .u16 f.k.c, .int .u16 f.k.d, .int .u64 f.p, .int .u64 f.b]), .val (.agg #[.int .u16 f.k.a, .int .u16 f.k.b, .int .u16 f.k.c, .int .u16 f.k.d, .int .u64 f.p, .int .u64 f.b]), .val (.bool false), .val (.bool false), .val (.bool false), .val (.slice (some ⟨gw, 0, none⟩) L.length cw), .val (.agg #[.int .u16 f.k.a, .int .u16 f.k.b, .int .u16 f.k.c, .int .u16 f.k.d, .int .u64 f.p, .int .u64 f.b]), .val (.agg #[.int .u16 f.k.a, .int .u16 f.k.b, .int .u16 f.k.c, .int .u16 f.k.d, .int .u64 f.p, .int .u64 f.b]), .val (.int .i64 q), .val (.int .i64 q), .val (.bool false), .val (.bool false), .val (.bool false), .val (.pointer (some ⟨T, 0, none⟩)), .val (.pointer (some ⟨wr.heap.size, 0, none⟩)), .val (.agg #[.int .u16 f.k.a, .int .u16 f.k.b, .int .u16 f.k.c, .int .u16 f.k.d]), .val (.agg #[.int .u16 f.k.a, .int .u16 f.k.b, .int .u16 f.k.c, .int .u16 f.k.d, .int .u64 f.p, .int .u64 f.b]), .val (.agg #[.int .u16 f.k.a, .int .u16 f.k.b, .int .u16 f.k.c, .int .u16 f.k.d, .int .u64 f.p, .int .u64 f.b]), .val (.bool false), .val (.bool false)] (by kernel_rfl) (by kernel_rfl) (by kernel_rfl) ?_ ?_
          · refine ⟨?_, ?_, ?_, ?_, ?_, ?_, ?_, ?_, ?_, ?_, ?_, ?_, ?_, ?_, ?_, ?_, ?_, ?_, ?_, ?_, ?_, ?_, ?_, ?_, ?_, ?_, ?_, trivial⟩
            · intro a z c
              have e17 : a.eval (.tmp 17) = .int .i64 jj := (c.off 17 (by kernel_rfl)).trans rfl
              have f17 := (eval_opt a 17).trans e17
              exact gval (.int .i64 jj) (by simp only [execOp, f17, e17]; go_simp) rfl
            · intro a z c
              have e85 : a.eval (.tmp 85) = .int .i64 jj := c.dep 0 _ 85 (by kernel_rfl) rfl rfl
              have f85 := (eval_opt a 85).trans e85
              exact gval (.bool false) (by simp only [execOp, f85, e85]; go_simp) rfl
            · intro a z c
              have e86 : a.eval (.tmp 86) = .bool false := c.dep 1 _ 86 (by kernel_rfl) rfl rfl
              have f86 := (eval_opt a 86).trans e86
              exact gval (.bool false) (by simp only [execOp, f86, e86]; go_simp) rfl
            · intro a z c
              have e8 : a.eval (.tmp 8) = .slice (some ⟨gw, 0, none⟩) L.length cw := (c.off 8 (by kernel_rfl)).trans rfl
              have f8 := (eval_opt a 8).trans e8
              exact gval (.slice (some ⟨gw, 0, none⟩) L.length cw) (by simp only [execOp, f8, e8]; go_simp) rfl
            · intro a z c
              have e17 : a.eval (.tmp 17) = .int .i64 jj := (c.off 17 (by kernel_rfl)).trans rfl
              have f17 := (eval_opt a 17).trans e17
              exact gval (.int .i64 jj) (by simp only [execOp, f17, e17]; go_simp) rfl
            · intro a z c
              have e88 : a.eval (.tmp 88) = .slice (some ⟨gw, 0, none⟩) L.length cw := c.dep 3 _ 88 (by kernel_rfl) rfl rfl
              have e89 : a.eval (.tmp 89) = .int .i64 jj := c.dep 4 _ 89 (by kernel_rfl) rfl rfl
              have f88 := (eval_opt a 88).trans e88
              have f89 := (eval_opt a 89).trans e89
              exact gval (.pointer (some ⟨gw, jj * 6, none⟩)) (by simp only [execOp, f88, f89, e88, e89]; go_simp) rfl
            · intro a z c
              have e90 : a.eval (.tmp 90) = .pointer (some ⟨gw, jj * 6, none⟩) := c.dep 5 _ 90 (by kernel_rfl) rfl rfl
              have f90 := (eval_opt a 90).trans e90
              have bb : Below v2.heap.size v2 z := Below.trans (Below.drew (Below.refl _ _)) c.below
              have hz : Below w5.heap.size w5 z := h5.trans ((hv1.trans ((hv2.trans (bb.mono hv2.size)).mono hv1.size)).mono h5.size)
              have y0 : World.cell? z ⟨gw, 0 + jj * 6 + 0, none⟩ = some (.int .u16 f.k.a) := atw.below hz hgw' jj f hjf 0 _ rfl; simp only [Nat.zero_add, Nat.add_zero] at y0
              have y1 : World.cell? z ⟨gw, 0 + jj * 6 + 1, none⟩ = some (.int .u16 f.k.b) := atw.below hz hgw' jj f hjf 1 _ rfl; simp only [Nat.zero_add, Nat.add_zero] at y1
              have y2 : World.cell? z ⟨gw, 0 + jj * 6 + 2, none⟩ = some (.int .u16 f.k.c) := atw.below hz hgw' jj f hjf 2 _ rfl; simp only [Nat.zero_add, Nat.add_zero] at y2
              have y3 : World.cell? z ⟨gw, 0 + jj * 6 + 3, none⟩ = some (.int .u16 f.k.d) := atw.below hz hgw' jj f hjf 3 _ rfl; simp only [Nat.zero_add, Nat.add_zero] at y3
              have y4 : World.cell? z ⟨gw, 0 + jj * 6 + 4, none⟩ = some (.int .u64 f.p) := atw.below hz hgw' jj f hjf 4 _ rfl; simp only [Nat.zero_add, Nat.add_zero] at y4
              have y5 : World.cell? z ⟨gw, 0 + jj * 6 + 5, none⟩ = some (.int .u64 f.b) := atw.below hz hgw' jj f hjf 5 _ rfl; simp only [Nat.zero_add, Nat.add_zero] at y5
              exact gval (.agg #[.int .u16 f.k.a, .int .u16 f.k.b, .int .u16 f.k.c, .int .u16 f.k.d, .int .u64 f.p, .int .u64 f.b]) (by simp only [execOp, f90, e90]; go_simp) rfl
            · intro a z c
              have e16 : a.eval (.tmp 16) = .pointer (some ⟨wr.heap.size, 0, none⟩) := (c.off 16 (by kernel_rfl)).trans rfl
              have f16 := (eval_opt a 16).trans e16
              have bb : Below v2.heap.size v2 z := Below.trans (Below.drew (Below.refl _ _)) c.below
              have kX := X2.below bb X2.size; have cX := kX.cell
              exact gval (.agg #[.int .u16 f.k.a, .int .u16 f.k.b, .int .u16 f.k.c, .int .u16 f.k.d, .int .u64 f.p, .int .u64 f.b]) (by simp only [execOp, f16, e16]; go_simp) rfl
            · intro a z c
              have e92 : a.eval (.tmp 92) = .agg #[.int .u16 f.k.a, .int .u16 f.k.b, .int .u16 f.k.c, .int .u16 f.k.d, .int .u64 f.p, .int .u64 f.b] := c.dep 7 _ 92 (by kernel_rfl) rfl rfl
              have f92 := (eval_opt a 92).trans e92
              exact gcall (.agg #[.int .u16 f.k.a, .int .u16 f.k.b, .int .u16 f.k.c, .int .u16 f.k.d, .int .u64 f.p, .int .u64 f.b]) 38 #[.agg #[.int .u16 f.k.a, .int .u16 f.k.b, .int .u16 f.k.c, .int .u16 f.k.d, .int .u64 f.p, .int .u64 f.b]] (by simp only [execOp, f92, e92]; go_simp) (rRef45 f z) (fun _ => rfl)
            · intro a z c
              have e91 : a.eval (.tmp 91) = .agg #[.int .u16 f.k.a, .int .u16 f.k.b, .int .u16 f.k.c, .int .u16 f.k.d, .int .u64 f.p, .int .u64 f.b] := c.dep 6 _ 91 (by kernel_rfl) rfl rfl
              have e93 : a.eval (.tmp 93) = .agg #[.int .u16 f.k.a, .int .u16 f.k.b, .int .u16 f.k.c, .int .u16 f.k.d, .int .u64 f.p, .int .u64 f.b] := c.dep 8 _ 93 (by kernel_rfl) rfl rfl
              have f91 := (eval_opt a 91).trans e91
              have f93 := (eval_opt a 93).trans e93
              have bb : Below v2.heap.size v2 z := Below.trans (Below.drew (Below.refl _ _)) c.below
              have q0 := kq9999 f.k z
              exact gval (.bool false) (by simp only [execOp, f91, f93, e91, e93]; go_simp) rfl
            · intro a z c
              have e87 : a.eval (.tmp 87) = .bool false := c.dep 2 _ 87 (by kernel_rfl) rfl rfl
              have e94 : a.eval (.tmp 94) = .bool false := c.dep 9 _ 94 (by kernel_rfl) rfl rfl
              have f87 := (eval_opt a 87).trans e87
              have f94 := (eval_opt a 94).trans e94
              exact gval (.bool false) (by simp only [execOp, f87, f94, e87, e94]; go_simp) rfl
            · intro a z c
              have e95 : a.eval (.tmp 95) = .bool false := c.dep 10 _ 95 (by kernel_rfl) rfl rfl
              have f95 := (eval_opt a 95).trans e95
              exact gval (.bool false) (by simp only [execOp, f95, e95]; go_simp) rfl
            · intro a z c
              have e8 : a.eval (.tmp 8) = .slice (some ⟨gw, 0, none⟩) L.length cw := (c.off 8 (by kernel_rfl)).trans rfl
              have f8 := (eval_opt a 8).trans e8
              exact gval (.slice (some ⟨gw, 0, none⟩) L.length cw) (by simp only [execOp, f8, e8]; go_simp) rfl
            · intro a z c
              have e16 : a.eval (.tmp 16) = .pointer (some ⟨wr.heap.size, 0, none⟩) := (c.off 16 (by kernel_rfl)).trans rfl
              have f16 := (eval_opt a 16).trans e16
              have bb : Below v2.heap.size v2 z := Below.trans (Below.drew (Below.refl _ _)) c.below
              have kX := X2.below bb X2.size; have cX := kX.cell
              exact gval (.agg #[.int .u16 f.k.a, .int .u16 f.k.b, .int .u16 f.k.c, .int .u16 f.k.d, .int .u64 f.p, .int .u64 f.b]) (by simp only [execOp, f16, e16]; go_simp) rfl
            · intro a z c
              have e98 : a.eval (.tmp 98) = .agg #[.int .u16 f.k.a, .int .u16 f.k.b, .int .u16 f.k.c, .int .u16 f.k.d, .int .u64 f.p, .int .u64 f.b] := c.dep 13 _ 98 (by kernel_rfl) rfl rfl
              have f98 := (eval_opt a 98).trans e98
              exact gcall (.agg #[.int .u16 f.k.a, .int .u16 f.k.b, .int .u16 f.k.c, .int .u16 f.k.d, .int .u64 f.p, .int .u64 f.b]) 38 #[.agg #[.int .u16 f.k.a, .int .u16 f.k.b, .int .u16 f.k.c, .int .u16 f.k.d, .int .u64 f.p, .int .u64 f.b]] (by simp only [execOp, f98, e98]; go_simp) (rRef45 f z) (fun _ => rfl)
            · intro a z c
              have e97 : a.eval (.tmp 97) = .slice (some ⟨gw, 0, none⟩) L.length cw := c.dep 12 _ 97 (by kernel_rfl) rfl rfl
              have e99 : a.eval (.tmp 99) = .agg #[.int .u16 f.k.a, .int .u16 f.k.b, .int .u16 f.k.c, .int .u16 f.k.d, .int .u64 f.p, .int .u64 f.b] := c.dep 14 _ 99 (by kernel_rfl) rfl rfl
              have f97 := (eval_opt a 97).trans e97
              have f99 := (eval_opt a 99).trans e99
              have bb : Below v2.heap.size v2 z := Below.trans (Below.drew (Below.refl _ _)) c.below
              have hz : Below w5.heap.size w5 z := h5.trans ((hv1.trans ((hv2.trans (bb.mono hv2.size)).mono hv1.size)).mono h5.size)
              exact gcall (.int .i64 q) 39 #[.slice (some ⟨gw, 0, none⟩) L.length cw, .agg #[.int .u16 f.k.a, .int .u16 f.k.b, .int .u16 f.k.c, .int .u16 f.k.d, .int .u64 f.p, .int .u64 f.b]] (by simp only [execOp, f97, f99, e97, e99]; go_simp) (rPlace45 L f _ gw 0 cw q z (fun _ => rfl) (fun _ => Nat.lt_of_lt_of_le hgw' hz.size) (atw.below hz hgw') (by omega) hpl) (fun _ => rfl)
            · intro a z c
              have e15 : a.eval (.tmp 15) = .int .i64 q := (c.off 15 (by kernel_rfl)).trans rfl
              have f15 := (eval_opt a 15).trans e15
              exact gval (.int .i64 q) (by simp only [execOp, f15, e15]; go_simp) rfl
            · intro a z c
              have e100 : a.eval (.tmp 100) = .int .i64 q := c.dep 15 _ 100 (by kernel_rfl) rfl rfl
              have e101 : a.eval (.tmp 101) = .int .i64 q := c.dep 16 _ 101 (by kernel_rfl) rfl rfl
              have f100 := (eval_opt a 100).trans e100
              have f101 := (eval_opt a 101).trans e101
              exact gval (.bool false) (by simp only [execOp, f100, f101, e100, e101]; go_simp) rfl
            · intro a z c
              have e96 : a.eval (.tmp 96) = .bool false := c.dep 11 _ 96 (by kernel_rfl) rfl rfl
              have e102 : a.eval (.tmp 102) = .bool false := c.dep 17 _ 102 (by kernel_rfl) rfl rfl
              have f96 := (eval_opt a 96).trans e96
              have f102 := (eval_opt a 102).trans e102
              exact gval (.bool false) (by simp only [execOp, f96, f102, e96, e102]; go_simp) rfl
            · intro a z c
              have e103 : a.eval (.tmp 103) = .bool false := c.dep 18 _ 103 (by kernel_rfl) rfl rfl
              have f103 := (eval_opt a 103).trans e103
              exact gval (.bool false) (by simp only [execOp, f103, e103]; go_simp) rfl
            · intro a z c
              have e7 : a.eval (.tmp 7) = .pointer (some ⟨T, 0, none⟩) := (c.off 7 (by kernel_rfl)).trans rfl
              have f7 := (eval_opt a 7).trans e7
              exact gval (.pointer (some ⟨T, 0, none⟩)) (by simp only [execOp, f7, e7]; go_simp) rfl
            · intro a z c
              have e16 : a.eval (.tmp 16) = .pointer (some ⟨wr.heap.size, 0, none⟩) := (c.off 16 (by kernel_rfl)).trans rfl
              have f16 := (eval_opt a 16).trans e16
              exact gval (.pointer (some ⟨wr.heap.size, 0, none⟩)) (by simp only [execOp, f16, e16]; go_simp) rfl
            · intro a z c
              have e106 : a.eval (.tmp 106) = .pointer (some ⟨wr.heap.size, 0, none⟩) := c.dep 21 _ 106 (by kernel_rfl) rfl rfl
              have f106 := (eval_opt a 106).trans e106
              have bb : Below v2.heap.size v2 z := Below.trans (Below.drew (Below.refl _ _)) c.below
              have kX := X2.below bb X2.size; have cX := kX.cell
              exact gval (.agg #[.int .u16 f.k.a, .int .u16 f.k.b, .int .u16 f.k.c, .int .u16 f.k.d]) (by simp only [execOp, f106, e106]; go_simp) rfl
            · intro a z c
              have e105 : a.eval (.tmp 105) = .pointer (some ⟨T, 0, none⟩) := c.dep 20 _ 105 (by kernel_rfl) rfl rfl
              have e107 : a.eval (.tmp 107) = .agg #[.int .u16 f.k.a, .int .u16 f.k.b, .int .u16 f.k.c, .int .u16 f.k.d] := c.dep 22 _ 107 (by kernel_rfl) rfl rfl
              have f105 := (eval_opt a 105).trans e105
              have f107 := (eval_opt a 107).trans e107
              have bb : Below v2.heap.size v2 z := Below.trans (Below.drew (Below.refl _ _)) c.below
              have hz : Below w5.heap.size w5 z := h5.trans ((hv1.trans ((hv2.trans (bb.mono hv2.size)).mono hv1.size)).mono h5.size)
              exact gcall (.agg #[.int .u16 f.k.a, .int .u16 f.k.b, .int .u16 f.k.c, .int .u16 f.k.d, .int .u64 f.p, .int .u64 f.b]) 40 #[.pointer (some ⟨T, 0, none⟩), .agg #[.int .u16 f.k.a, .int .u16 f.k.b, .int .u16 f.k.c, .int .u16 f.k.d]] (by simp only [execOp, f105, f107, e105, e107]; go_simp) (by have h := fGetAny T M L f.k z (T5.below hz T5.size) (M5.below0 hz); rw [hgr] at h; exact h) (fun _ => rfl)
            · intro a z c
              have e16 : a.eval (.tmp 16) = .pointer (some ⟨wr.heap.size, 0, none⟩) := (c.off 16 (by kernel_rfl)).trans rfl
              have f16 := (eval_opt a 16).trans e16
              have bb : Below v2.heap.size v2 z := Below.trans (Below.drew (Below.refl _ _)) c.below
              have kX := X2.below bb X2.size; have cX := kX.cell
              exact gval (.agg #[.int .u16 f.k.a, .int .u16 f.k.b, .int .u16 f.k.c, .int .u16 f.k.d, .int .u64 f.p, .int .u64 f.b]) (by simp only [execOp, f16, e16]; go_simp) rfl
            · intro a z c
              have e108 : a.eval (.tmp 108) = .agg #[.int .u16 f.k.a, .int .u16 f.k.b, .int .u16 f.k.c, .int .u16 f.k.d, .int .u64 f.p, .int .u64 f.b] := c.dep 23 _ 108 (by kernel_rfl) rfl rfl
              have e109 : a.eval (.tmp 109) = .agg #[.int .u16 f.k.a, .int .u16 f.k.b, .int .u16 f.k.c, .int .u16 f.k.d, .int .u64 f.p, .int .u64 f.b] := c.dep 24 _ 109 (by kernel_rfl) rfl rfl
              have f108 := (eval_opt a 108).trans e108
              have f109 := (eval_opt a 109).trans e109
              have bb : Below v2.heap.size v2 z := Below.trans (Below.drew (Below.refl _ _)) c.below
              have q0 := kq9999 f.k z
              exact gval (.bool false) (by simp only [execOp, f108, f109, e108, e109]; go_simp) rfl
            · intro a z c
              have e104 : a.eval (.tmp 104) = .bool false := c.dep 19 _ 104 (by kernel_rfl) rfl rfl
              have e110 : a.eval (.tmp 110) = .bool false := c.dep 25 _ 110 (by kernel_rfl) rfl rfl
              have f104 := (eval_opt a 104).trans e104
              have f110 := (eval_opt a 110).trans e110
              exact gval (.bool false) (by simp only [execOp, f104, f110, e104, e110]; go_simp) rfl
          intro a z hb hd ho hs hf
          have e111 : a.eval (.tmp 111) = .bool false := hd 26 _ 111 rfl rfl
          have gG := g2.trans (hb.mono g2.size)
          have hv3 : Below v1.heap.size v1 z := hv2.trans (hb.mono hv2.size)
          rw [frame_eta a 138 hs, hf]
          simp only [List.range, List.range.loop, List.map_cons, List.map_nil, e111, ho 0 (by kernel_rfl), ho 1 (by kernel_rfl), ho 2 (by kernel_rfl), ho 3 (by kernel_rfl), ho 4 (by kernel_rfl), ho 5 (by kernel_rfl), ho 6 (by kernel_rfl), ho 7 (by kernel_rfl), ho 8 (by kernel_rfl), ho 9 (by kernel_rfl), ho 10 (by kernel_rfl), ho 11 (by kernel_rfl), ho 12 (by kernel_rfl), ho 13 (by kernel_rfl), ho 14 (by kernel_rfl), ho 15 (by kernel_rfl), ho 16 (by kernel_rfl), ho 17 (by kernel_rfl), ho 18 (by kernel_rfl), ho 19 (by kernel_rfl), ho 20 (by kernel_rfl), ho 21 (by kernel_rfl), ho 22 (by kernel_rfl), ho 23 (by kernel_rfl), ho 24 (by kernel_rfl), ho 25 (by kernel_rfl), ho 26 (by kernel_rfl), ho 27 (by kernel_rfl), ho 28 (by kernel_rfl), ho 29 (by kernel_rfl), ho 30 (by kernel_rfl), ho 31 (by kernel_rfl), ho 32 (by kernel_rfl), ho 33 (by kernel_rfl), ho 34 (by kernel_rfl), ho 35 (by kernel_rfl), ho 36 (by kernel_rfl), ho 37 (by kernel_rfl), ho 38 (by kernel_rfl), ho 39 (by kernel_rfl), ho 40 (by kernel_rfl), ho 41 (by kernel_rfl), ho 42 (by kernel_rfl), ho 43 (by kernel_rfl), ho 44 (by kernel_rfl), ho 45 (by kernel_rfl), ho 46 (by kernel_rfl), ho 47 (by kernel_rfl), ho 48 (by kernel_rfl), ho 49 (by kernel_rfl), ho 50 (by kernel_rfl), ho 51 (by kernel_rfl), ho 52 (by kernel_rfl), ho 53 (by kernel_rfl), ho 54 (by kernel_rfl), ho 55 (by kernel_rfl), ho 56 (by kernel_rfl), ho 57 (by kernel_rfl), ho 58 (by kernel_rfl), ho 59 (by kernel_rfl), ho 60 (by kernel_rfl), ho 61 (by kernel_rfl), ho 62 (by kernel_rfl), ho 63 (by kernel_rfl), ho 64 (by kernel_rfl), ho 65 (by kernel_rfl), ho 66 (by kernel_rfl), ho 67 (by kernel_rfl), ho 68 (by kernel_rfl), ho 69 (by kernel_rfl), ho 70 (by kernel_rfl), ho 71 (by kernel_rfl), ho 72 (by kernel_rfl), ho 73 (by kernel_rfl), ho 74 (by kernel_rfl), ho 75 (by kernel_rfl), ho 76 (by kernel_rfl), ho 77 (by kernel_rfl), ho 78 (by kernel_rfl), ho 79 (by kernel_rfl), ho 80 (by kernel_rfl), ho 81 (by kernel_rfl), ho 82 (by kernel_rfl), ho 83 (by kernel_rfl), ho 84 (by kernel_rfl), ho 112 (by kernel_rfl), ho 113 (by kernel_rfl), ho 114 (by kernel_rfl), ho 115 (by kernel_rfl), ho 116 (by kernel_rfl), ho 117 (by kernel_rfl), ho 118 (by kernel_rfl), ho 119 (by kernel_rfl), ho 120 (by kernel_rfl), ho 121 (by kernel_rfl), ho 122 (by kernel_rfl), ho 123 (by kernel_rfl), ho 124 (by kernel_rfl), ho 125 (by kernel_rfl), ho 126 (by kernel_rfl), ho 127 (by kernel_rfl), ho 128 (by kernel_rfl), ho 129 (by kernel_rfl), ho 130 (by kernel_rfl), ho 131 (by kernel_rfl), ho 132 (by kernel_rfl), ho 133 (by kernel_rfl), ho 134 (by kernel_rfl), ho 135 (by kernel_rfl), ho 136 (by kernel_rfl), ho 137 (by kernel_rfl)]
          clear hd ho hf hs hb e111
          generalize a.eval (.tmp 85) = u85
          generalize a.eval (.tmp 86) = u86
          generalize a.eval (.tmp 87) = u87
          generalize a.eval (.tmp 88) = u88
          generalize a.eval (.tmp 89) = u89
          generalize a.eval (.tmp 90) = u90
          generalize a.eval (.tmp 91) = u91
          generalize a.eval (.tmp 92) = u92
          generalize a.eval (.tmp 93) = u93
          generalize a.eval (.tmp 94) = u94
          generalize a.eval (.tmp 95) = u95
          generalize a.eval (.tmp 96) = u96
          generalize a.eval (.tmp 97) = u97
          generalize a.eval (.tmp 98) = u98
          generalize a.eval (.tmp 99) = u99
          generalize a.eval (.tmp 100) = u100
          generalize a.eval (.tmp 101) = u101
          generalize a.eval (.tmp 102) = u102
          generalize a.eval (.tmp 103) = u103
          generalize a.eval (.tmp 104) = u104
          generalize a.eval (.tmp 105) = u105
          generalize a.eval (.tmp 106) = u106
          generalize a.eval (.tmp 107) = u107
          generalize a.eval (.tmp 108) = u108
          generalize a.eval (.tmp 109) = u109
          generalize a.eval (.tmp 110) = u110
          clear a
          go_simp
          have hz3 : Below w5.heap.size w5 z := h5.trans ((hv1.trans (hv3.mono hv1.size)).mono h5.size)
          go_wp2
          go_roundw
          case rel => exact ⟨q + 1, by omega, by go_num, hz3⟩
          case measure => simp [intOf]; omega
        · obtain rfl : q = m := by omega
          clear hlt hqm
          have T6 := T5.below h5 T5.size
          have M6 := M5.below0 h5
          have A6 := A4.below h5 A4.size
          have cT := T6.cell; have zT := T6.size; have cA := A6.cell; have fA := A6.frozen; have zA := A6.size
          cases hfk : findF L key 0 with
          | none =>
            have hgr : getR L key = ⟨key, 0, 0⟩ := by unfold getR; rw [hfk]
            have hfx : fidx L key = -1 := by unfold fidx; rw [hfk]
            have KG := hide (show Calls Try.prog 40 #[.pointer (some ⟨T, 0, none⟩), .agg #[.int .u16 key.a, .int .u16 key.b, .int .u16 key.c, .int .u16 key.d]] wr fun e w' => e = .returned (.agg #[.int .u16 key.a, .int .u16 key.b, .int .u16 key.c, .int .u16 key.d, .int .u64 0, .int .u64 0]) ∧ Below wr.heap.size wr w' from by have h := fGetAny T M L key wr T6 M6; rw [hgr] at h; exact h)
            have KF := hide (fun (v : World) (hv : Below w5.heap.size w5 v) => rFind L key aw gw 0 cw (-1) v haw (fun h => Nat.lt_of_lt_of_le (hgw5 h) hv.size) (atw.below0 hv hgw5) (by omega) hfx)
            have q1 := fun v => kq9999 key v
            clear hfk hgr hfx
            go_wp2_with fail
            refine KG.out.mono ?_
            rintro e7 w7 ⟨rfl, hb7⟩
            have h7 : Below w5.heap.size w5 w7 := h5.trans (hb7.mono h5.size)
            have g7 : Below w.heap.size w w7 := g0.trans (hb7.mono g0.size)
            have A7 := A6.below hb7 A6.size
            have hz7 := g7.size
            replace cA := A7.cell; replace fA := A7.frozen; replace zA := A7.size
            go_wp2_with fail
            refine (KF.out _ (by first | exact h7.trans (Below.alloc (Below.refl _ _) h7.size _) | (repeat' (first | (with_reducible (first | exact Below.refl _ _ | assumption | refine below_drewN ?_ _ | refine Below.drew ?_ | refine Below.alloc ?_ ?_ _ | refine Below.setCell ?_ ?_ _)) | go_size)))).mono ?_
            rintro e8 w8 ⟨rfl, hb8⟩
            have Y8 : Blk w8 w7.heap.size #[.int .u16 key.a, .int .u16 key.b, .int .u16 key.c, .int .u16 key.d, .int .u64 0, .int .u64 0] 88 := Blk.below (by (repeat' (first | (with_reducible (first | assumption | exact Blk.alloc_new _ _ _ (by first | rfl | (simp; done) | omega) | apply Blk.drewN | apply Blk.drew | apply Blk.alloc_old | apply Blk.set_same | apply Blk.set_other)) | (show (_ : Nat) ≠ _; first | omega | (simp; done) | (simp; omega)) | ((simp only [List.setIfInBounds_toArray, List.set_cons_succ, List.set_cons_zero]); (with_reducible exact rfl)) | (with_reducible exact rfl) | (show (_ : Array Value) = _; exact rfl)))) hb8 (by simp)
            have A8 : Blk w8 w.heap.size #[.int .u16 key.a, .int .u16 key.b, .int .u16 key.c, .int .u16 key.d] 48 := Blk.below (by (repeat' (first | (with_reducible (first | assumption | exact Blk.alloc_new _ _ _ (by first | rfl | (simp; done) | omega) | apply Blk.drewN | apply Blk.drew | apply Blk.alloc_old | apply Blk.set_same | apply Blk.set_other)) | (show (_ : Nat) ≠ _; first | omega | (simp; done) | (simp; omega)) | ((simp only [List.setIfInBounds_toArray, List.set_cons_succ, List.set_cons_zero]); (with_reducible exact rfl)) | (with_reducible exact rfl) | (show (_ : Array Value) = _; exact rfl)))) hb8 (by simp; omega)
            have g8 : Below w.heap.size w w8 := Below.trans (by (repeat' (first | (with_reducible (first | exact Below.refl _ _ | assumption | refine below_drewN ?_ _ | refine Below.drew ?_ | refine Below.alloc ?_ ?_ _ | refine Below.setCell ?_ ?_ _)) | go_size))) (hb8.mono (by simp; omega))
            have hz8 := g8.size
            replace cA := A8.cell; replace fA := A8.frozen; replace zA := A8.size
            have cY := Y8.cell; have fY := Y8.frozen; have zY := Y8.size
            go_wp2_with fail
            refine (names_true _).mono ?_
            rintro e w9 ⟨rfl, hb9⟩
            have g9 : Below w.heap.size w w9 := by refine Below.trans ?_ (hb9.mono ?_) <;> (repeat' (first | (with_reducible (first | exact Below.refl _ _ | assumption | refine below_drewN ?_ _ | refine Below.drew ?_ | refine Below.alloc ?_ ?_ _ | refine Below.setCell ?_ ?_ _)) | go_size))
            have hz9 := hb9.size
            (try simp at hz9)
            clear hb9
            go_wp2
            go_ret
            exact ⟨rfl, by (repeat' (first | (with_reducible (first | exact Below.refl _ _ | assumption | refine below_drewN ?_ _ | refine Below.drew ?_ | refine Below.alloc ?_ ?_ _ | refine Below.setCell ?_ ?_ _)) | go_size))⟩
          | some pp =>
            obtain ⟨jj, gf⟩ := pp
            obtain ⟨mm, e1, hjf, hkk⟩ := findF_some L key 0 jj gf hfk
            obtain rfl : jj = mm := by omega
            have hne : L ≠ [] := by intro e; rw [e] at hjf; simp at hjf
            obtain rfl := haw hne
            have hgw' := hgw5 hne
            have hjl : jj < L.length := (List.getElem?_eq_some_iff.1 hjf).1
            have hgr : getR L key = gf := by unfold getR; rw [hfk]
            have hfx : fidx L key = jj := by unfold fidx; rw [hfk]
            have KG := hide (show Calls Try.prog 40 #[.pointer (some ⟨T, 0, none⟩), .agg #[.int .u16 key.a, .int .u16 key.b, .int .u16 key.c, .int .u16 key.d]] wr fun e w' => e = .returned (.agg #[.int .u16 gf.k.a, .int .u16 gf.k.b, .int .u16 gf.k.c, .int .u16 gf.k.d, .int .u64 gf.p, .int .u64 gf.b]) ∧ Below wr.heap.size wr w' from by have h := fGetAny T M L key wr T6 M6; rw [hgr] at h; exact h)
            have KF := hide (fun (v : World) (hv : Below w5.heap.size w5 v) => rFind L key (some ⟨gw, 0, none⟩) gw 0 cw jj v (fun _ => rfl) (fun _ => Nat.lt_of_lt_of_le hgw' hv.size) (atw.below0 hv hgw5) (by omega) hfx)
            have hji : (jj : Int) < (L.length : Int) := by omega
            have hjb : (jj : Int) ≤ 300 := by omega
            have hjn : decide ((jj : Int) < 0) = false := decide_eq_false (by omega)
            clear hfk hgr hfx hkk e1
            go_wp2_with fail
            refine KG.out.mono ?_
            rintro e7 w7 ⟨rfl, hb7⟩
            have h7 : Below w5.heap.size w5 w7 := h5.trans (hb7.mono h5.size)
            have g7 : Below w.heap.size w w7 := g0.trans (hb7.mono g0.size)
            have A7 := A6.below hb7 A6.size
            have hz7 := g7.size
            replace cA := A7.cell; replace fA := A7.frozen; replace zA := A7.size
            go_wp2_with fail
            have h7a : Below w5.heap.size w5 (w7.alloc (.cells #[.int .u16 gf.k.a, .int .u16 gf.k.b, .int .u16 gf.k.c, .int .u16 gf.k.d, .int .u64 gf.p, .int .u64 gf.b] 88)) := h7.trans (Below.alloc (Below.refl _ _) h7.size _)
            refine (KF.out _ h7a).mono ?_
            rintro e8 v8 ⟨rfl, hb8⟩
            have h8 : Below w5.heap.size w5 v8 := h7a.trans (hb8.mono h7a.size)
            have Y8 : Blk v8 w7.heap.size #[.int .u16 gf.k.a, .int .u16 gf.k.b, .int .u16 gf.k.c, .int .u16 gf.k.d, .int .u64 gf.p, .int .u64 gf.b] 88 := Blk.below (by (repeat' (first | (with_reducible (first | assumption | exact Blk.alloc_new _ _ _ (by first | rfl | (simp; done) | omega) | apply Blk.drewN | apply Blk.drew | apply Blk.alloc_old | apply Blk.set_same | apply Blk.set_other)) | (show (_ : Nat) ≠ _; first | omega | (simp; done) | (simp; omega)) | ((simp only [List.setIfInBounds_toArray, List.set_cons_succ, List.set_cons_zero]); (with_reducible exact rfl)) | (with_reducible exact rfl) | (show (_ : Array Value) = _; exact rfl)))) hb8 (by simp)
            have g8 : Below w.heap.size w v8 := Below.trans (by (repeat' (first | (with_reducible (first | exact Below.refl _ _ | assumption | refine below_drewN ?_ _ | refine Below.drew ?_ | refine Below.alloc ?_ ?_ _ | refine Below.setCell ?_ ?_ _)) | go_size))) (hb8.mono (by simp; omega))
            have hz8 := g8.size
            have cY := Y8.cell; have fY := Y8.frozen; have zY := Y8.size
            clear KG KF cA fA zA
            go_upto_region 31 with (fail)
            refine wp_region_guarG [.val (.agg #[.int .u16 gf.k.a, .int .u16 gf.k.b, .int .u16 gf.k.c, .int .u16 gf.k.d, .int .u64 gf.p, .int .u64 gf.b]), .val (.agg #[.int .u16 gf.k.a, .int .u16 gf.k.b, .int .u16 gf.k.c, .int .u16 gf.k.d, .int .u64 gf.p, .int .u64 gf.b]), .val (.slice (some ⟨gw, 0, none⟩) L.length cw), .val (.int .i64 jj), .val (.pointer (some ⟨gw, jj * 6, none⟩)), .val (.agg #[.int .u16 gf.k.a, .int .u16 gf.k.b, .int .u16 gf.k.c, .int .u16 gf.k.d, .int .u64 gf.p, .int .u64 gf.b]), .val (.bool true), .val (.bool true), .val (.bool true), .val (.bool true), .val (.bool true)] (by kernel_rfl) (by kernel_rfl) (by kernel_rfl) ?_ ?_
            · refine ⟨?_, ?_, ?_, ?_, ?_, ?_, ?_, ?_, ?_, ?_, ?_, trivial⟩
              · intro a z c
                have e18 : a.eval (.tmp 18) = .pointer (some ⟨w7.heap.size, 0, none⟩) := (c.off 18 (by kernel_rfl)).trans rfl
                have f18 := (eval_opt a 18).trans e18
                have bb : Below v8.heap.size v8 z := Below.trans (Below.drew (Below.refl _ _)) c.below
                have kY := Y8.below bb Y8.size; have cY := kY.cell
                exact gval (.agg #[.int .u16 gf.k.a, .int .u16 gf.k.b, .int .u16 gf.k.c, .int .u16 gf.k.d, .int .u64 gf.p, .int .u64 gf.b]) (by simp only [execOp, f18, e18]; go_simp) rfl
              · intro a z c
                have e128 : a.eval (.tmp 128) = .agg #[.int .u16 gf.k.a, .int .u16 gf.k.b, .int .u16 gf.k.c, .int .u16 gf.k.d, .int .u64 gf.p, .int .u64 gf.b] := c.dep 0 _ 128 (by kernel_rfl) rfl rfl
                have f128 := (eval_opt a 128).trans e128
                exact gcall (.agg #[.int .u16 gf.k.a, .int .u16 gf.k.b, .int .u16 gf.k.c, .int .u16 gf.k.d, .int .u64 gf.p, .int .u64 gf.b]) 38 #[.agg #[.int .u16 gf.k.a, .int .u16 gf.k.b, .int .u16 gf.k.c, .int .u16 gf.k.d, .int .u64 gf.p, .int .u64 gf.b]] (by simp only [execOp, f128, e128]; go_simp) (rRef45 gf z) (fun _ => rfl)
              · intro a z c
                have e8 : a.eval (.tmp 8) = .slice (some ⟨gw, 0, none⟩) L.length cw := (c.off 8 (by kernel_rfl)).trans rfl
                have f8 := (eval_opt a 8).trans e8
                exact gval (.slice (some ⟨gw, 0, none⟩) L.length cw) (by simp only [execOp, f8, e8]; go_simp) rfl
              · intro a z c
                have e19 : a.eval (.tmp 19) = .int .i64 jj := (c.off 19 (by kernel_rfl)).trans rfl
                have f19 := (eval_opt a 19).trans e19
                exact gval (.int .i64 jj) (by simp only [execOp, f19, e19]; go_simp) rfl
              · intro a z c
                have e130 : a.eval (.tmp 130) = .slice (some ⟨gw, 0, none⟩) L.length cw := c.dep 2 _ 130 (by kernel_rfl) rfl rfl
                have e131 : a.eval (.tmp 131) = .int .i64 jj := c.dep 3 _ 131 (by kernel_rfl) rfl rfl
                have f130 := (eval_opt a 130).trans e130
                have f131 := (eval_opt a 131).trans e131
                exact gval (.pointer (some ⟨gw, jj * 6, none⟩)) (by simp only [execOp, f130, f131, e130, e131]; go_simp) rfl
              · intro a z c
                have e132 : a.eval (.tmp 132) = .pointer (some ⟨gw, jj * 6, none⟩) := c.dep 4 _ 132 (by kernel_rfl) rfl rfl
                have f132 := (eval_opt a 132).trans e132
                have bb : Below v8.heap.size v8 z := Below.trans (Below.drew (Below.refl _ _)) c.below
                have hz : Below w5.heap.size w5 z := h8.trans (bb.mono h8.size)
                have y0 : World.cell? z ⟨gw, 0 + jj * 6 + 0, none⟩ = some (.int .u16 gf.k.a) := atw.below hz hgw' jj gf hjf 0 _ rfl; simp only [Nat.zero_add, Nat.add_zero] at y0
                have y1 : World.cell? z ⟨gw, 0 + jj * 6 + 1, none⟩ = some (.int .u16 gf.k.b) := atw.below hz hgw' jj gf hjf 1 _ rfl; simp only [Nat.zero_add, Nat.add_zero] at y1
                have y2 : World.cell? z ⟨gw, 0 + jj * 6 + 2, none⟩ = some (.int .u16 gf.k.c) := atw.below hz hgw' jj gf hjf 2 _ rfl; simp only [Nat.zero_add, Nat.add_zero] at y2
                have y3 : World.cell? z ⟨gw, 0 + jj * 6 + 3, none⟩ = some (.int .u16 gf.k.d) := atw.below hz hgw' jj gf hjf 3 _ rfl; simp only [Nat.zero_add, Nat.add_zero] at y3
                have y4 : World.cell? z ⟨gw, 0 + jj * 6 + 4, none⟩ = some (.int .u64 gf.p) := atw.below hz hgw' jj gf hjf 4 _ rfl; simp only [Nat.zero_add, Nat.add_zero] at y4
                have y5 : World.cell? z ⟨gw, 0 + jj * 6 + 5, none⟩ = some (.int .u64 gf.b) := atw.below hz hgw' jj gf hjf 5 _ rfl; simp only [Nat.zero_add, Nat.add_zero] at y5
                exact gval (.agg #[.int .u16 gf.k.a, .int .u16 gf.k.b, .int .u16 gf.k.c, .int .u16 gf.k.d, .int .u64 gf.p, .int .u64 gf.b]) (by simp only [execOp, f132, e132]; go_simp) rfl
              · intro a z c
                have e129 : a.eval (.tmp 129) = .agg #[.int .u16 gf.k.a, .int .u16 gf.k.b, .int .u16 gf.k.c, .int .u16 gf.k.d, .int .u64 gf.p, .int .u64 gf.b] := c.dep 1 _ 129 (by kernel_rfl) rfl rfl
                have e133 : a.eval (.tmp 133) = .agg #[.int .u16 gf.k.a, .int .u16 gf.k.b, .int .u16 gf.k.c, .int .u16 gf.k.d, .int .u64 gf.p, .int .u64 gf.b] := c.dep 5 _ 133 (by kernel_rfl) rfl rfl
                have f129 := (eval_opt a 129).trans e129
                have f133 := (eval_opt a 133).trans e133
                have bb : Below v8.heap.size v8 z := Below.trans (Below.drew (Below.refl _ _)) c.below
                have q0 := kq9999 gf.k z
                exact gval (.bool true) (by simp only [execOp, f129, f133, e129, e133]; go_simp) rfl
              · intro a z c
                have e134 : a.eval (.tmp 134) = .bool true := c.dep 6 _ 134 (by kernel_rfl) rfl rfl
                have f134 := (eval_opt a 134).trans e134
                exact gval (.bool true) (by simp only [execOp, f134, e134]; go_simp) rfl
              · intro a z c
                exact gcall (.bool true) 29 #[] (by simp only [execOp]; go_simp) (names_true z) (fun _ => rfl)
              · intro a z c
                have e135 : a.eval (.tmp 135) = .bool true := c.dep 7 _ 135 (by kernel_rfl) rfl rfl
                have e136 : a.eval (.tmp 136) = .bool true := c.dep 8 _ 136 (by kernel_rfl) rfl rfl
                have f135 := (eval_opt a 135).trans e135
                have f136 := (eval_opt a 136).trans e136
                exact gval (.bool true) (by simp only [execOp, f135, f136, e135, e136]; go_simp) rfl
              · intro a z c
                have e137 : a.eval (.tmp 137) = .bool true := c.dep 9 _ 137 (by kernel_rfl) rfl rfl
                have f137 := (eval_opt a 137).trans e137
                exact gval (.bool true) (by simp only [execOp, f137, e137]; go_simp) rfl
            intro a z hb hd ho hs hf
            have e6 : a.eval (.tmp 6) = .bool true := hd 10 _ 6 rfl rfl
            have gG := g8.trans (hb.mono g8.size)
            rw [frame_eta a 138 hs, hf]
            simp only [List.range, List.range.loop, List.map_cons, List.map_nil, e6, ho 0 (by kernel_rfl), ho 1 (by kernel_rfl), ho 2 (by kernel_rfl), ho 3 (by kernel_rfl), ho 4 (by kernel_rfl), ho 5 (by kernel_rfl), ho 7 (by kernel_rfl), ho 8 (by kernel_rfl), ho 9 (by kernel_rfl), ho 10 (by kernel_rfl), ho 11 (by kernel_rfl), ho 12 (by kernel_rfl), ho 13 (by kernel_rfl), ho 14 (by kernel_rfl), ho 15 (by kernel_rfl), ho 16 (by kernel_rfl), ho 17 (by kernel_rfl), ho 18 (by kernel_rfl), ho 19 (by kernel_rfl), ho 20 (by kernel_rfl), ho 21 (by kernel_rfl), ho 22 (by kernel_rfl), ho 23 (by kernel_rfl), ho 24 (by kernel_rfl), ho 25 (by kernel_rfl), ho 26 (by kernel_rfl), ho 27 (by kernel_rfl), ho 28 (by kernel_rfl), ho 29 (by kernel_rfl), ho 30 (by kernel_rfl), ho 31 (by kernel_rfl), ho 32 (by kernel_rfl), ho 33 (by kernel_rfl), ho 34 (by kernel_rfl), ho 35 (by kernel_rfl), ho 36 (by kernel_rfl), ho 37 (by kernel_rfl), ho 38 (by kernel_rfl), ho 39 (by kernel_rfl), ho 40 (by kernel_rfl), ho 41 (by kernel_rfl), ho 42 (by kernel_rfl), ho 43 (by kernel_rfl), ho 44 (by kernel_rfl), ho 45 (by kernel_rfl), ho 46 (by kernel_rfl), ho 47 (by kernel_rfl), ho 48 (by kernel_rfl), ho 49 (by kernel_rfl), ho 50 (by kernel_rfl), ho 51 (by kernel_rfl), ho 52 (by kernel_rfl), ho 53 (by kernel_rfl), ho 54 (by kernel_rfl), ho 55 (by kernel_rfl), ho 56 (by kernel_rfl), ho 57 (by kernel_rfl), ho 58 (by kernel_rfl), ho 59 (by kernel_rfl), ho 60 (by kernel_rfl), ho 61 (by kernel_rfl), ho 62 (by kernel_rfl), ho 63 (by kernel_rfl), ho 64 (by kernel_rfl), ho 65 (by kernel_rfl), ho 66 (by kernel_rfl), ho 67 (by kernel_rfl), ho 68 (by kernel_rfl), ho 69 (by kernel_rfl), ho 70 (by kernel_rfl), ho 71 (by kernel_rfl), ho 72 (by kernel_rfl), ho 73 (by kernel_rfl), ho 74 (by kernel_rfl), ho 75 (by kernel_rfl), ho 76 (by kernel_rfl), ho 77 (by kernel_rfl), ho 78 (by kernel_rfl), ho 79 (by kernel_rfl), ho 80 (by kernel_rfl), ho 81 (by kernel_rfl), ho 82 (by kernel_rfl), ho 83 (by kernel_rfl), ho 84 (by kernel_rfl), ho 85 (by kernel_rfl), ho 86 (by kernel_rfl), ho 87 (by kernel_rfl), ho 88 (by kernel_rfl), ho 89 (by kernel_rfl), ho 90 (by kernel_rfl), ho 91 (by kernel_rfl), ho 92 (by kernel_rfl), ho 93 (by kernel_rfl), ho 94 (by kernel_rfl), ho 95 (by kernel_rfl), ho 96 (by kernel_rfl), ho 97 (by kernel_rfl), ho 98 (by kernel_rfl), ho 99 (by kernel_rfl), ho 100 (by kernel_rfl), ho 101 (by kernel_rfl), ho 102 (by kernel_rfl), ho 103 (by kernel_rfl), ho 104 (by kernel_rfl), ho 105 (by kernel_rfl), ho 106 (by kernel_rfl), ho 107 (by kernel_rfl), ho 108 (by kernel_rfl), ho 109 (by kernel_rfl), ho 110 (by kernel_rfl), ho 111 (by kernel_rfl), ho 112 (by kernel_rfl), ho 113 (by kernel_rfl), ho 114 (by kernel_rfl), ho 115 (by kernel_rfl), ho 116 (by kernel_rfl), ho 117 (by kernel_rfl), ho 118 (by kernel_rfl), ho 119 (by kernel_rfl), ho 120 (by kernel_rfl), ho 121 (by kernel_rfl), ho 122 (by kernel_rfl), ho 123 (by kernel_rfl), ho 124 (by kernel_rfl), ho 125 (by kernel_rfl), ho 126 (by kernel_rfl), ho 127 (by kernel_rfl)]
            clear hd ho hf hs hb e6
            generalize a.eval (.tmp 128) = u128
            generalize a.eval (.tmp 129) = u129
            generalize a.eval (.tmp 130) = u130
            generalize a.eval (.tmp 131) = u131
            generalize a.eval (.tmp 132) = u132
            generalize a.eval (.tmp 133) = u133
            generalize a.eval (.tmp 134) = u134
            generalize a.eval (.tmp 135) = u135
            generalize a.eval (.tmp 136) = u136
            generalize a.eval (.tmp 137) = u137
            clear a
            go_simp
            go_wp2
            go_ret
            exact ⟨rfl, gG⟩
end Go.Proofs.Ytljpiofpfankoaa
