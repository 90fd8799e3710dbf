/-
  Flows: Table.Heavy: all flows, the heaviest first, whatever the order in which the map is ranged over. Conditions: the table's map is known.
-/
import Derived.Test.YtljpiofpfankoaaFlW
namespace Go.Proofs.Ytljpiofpfankoaa
open Go.RowKit Go.Sort
set_option linter.unusedVariables false
set_option linter.unusedSimpArgs false
theorem fl_info45 : (Try.prog.info? 88).map (fun i => (i.zero, i.size, i.bytes)) = some (some (.agg #[.int .u16 0, .int .u16 0, .int .u16 0, .int .u16 0, .int .u64 0, .int .u64 0]), 6, 24) := by kernel_rfl
def iterLeft (w : World) (r M : Nat) : Nat := match w.heap[r]?, w.heap[M]? with
  | some (.mapIter _ _ seen _), some (.map es _) => (leftOf es seen).size
  | _, _ => 0
theorem iterLeft_eq {w : World} {r M : Nat} {R : List FW} (h : IterAt w r M R) : iterLeft w r M = R.length := by
  obtain ⟨es, cl, si, c0, se, h1, h2, _, _, _, _, hs⟩ := h
  unfold iterLeft
  rw [h1, h2]
  have := congrArg List.length hs
  simpa using this
theorem HoldG.kept {α : Type} {e : TypeId} {n : Nat} {enc : α → List Value} {w w' : World} {base r : Nat} {v : Value} {l : List α} (h : HoldG e n enc w base v l) (hr : r < base) (ho : ∀ b, b ≠ r → w'.heap[b]? = w.heap[b]?) : HoldG e n enc w' base v l := by
  obtain ⟨h1, h2⟩ := h
  refine ⟨h1, ?_⟩
  rcases h2 with h2 | ⟨g, cap, cur, e, hg, hh, q⟩
  · exact .inl h2
  · exact .inr ⟨g, cap, cur, e, hg, (ho g (by omega)).trans hh, q⟩
set_option maxRecDepth 100000 in
set_option maxHeartbeats 8000000 in
theorem flHeavy (T M : Nat) (L : List FW) (n : Int) (w : World) (hT : Blk w T #[.map (some M)] 132) (hM : MapW w M L) (hl : L.length ≤ 300) (hnr : -9223372036854775808 ≤ n ∧ n ≤ 9223372036854775807) :
    Calls Try.prog 35 #[.pointer (some ⟨T, 0, none⟩), .int .i64 n] w fun x w' => ∃ (S : List FW) (a : Option Addr) (g cap m : Nat), x = .returned (.slice a m cap) ∧ ((n ≤ L.length ∧ (m : Int) = max n 0) ∨ ((L.length : Int) < n ∧ m = L.length)) ∧ S.Perm L ∧ (∀ (i j : Nat) (f g : FW), i < j → S[i]? = some f → S[j]? = some g → ¬ ltH g f) ∧ m ≤ cap ∧ (L ≠ [] → a = some ⟨g, 0, none⟩) ∧ (L ≠ [] → g < w'.heap.size) ∧ AtG 6 fvs w' g 0 S ∧ Below w.heap.size w w' := by
  have cT := hT.cell; have zT := hT.size
  have zM := hM.lt
  go_enter Try.func35, Try.ntmps35
  go_wp2_with (refine wpList_range_f rfl (.tmp 13) rfl M L (by rfl) hM ?_; intro w0 hI hb0 hs0)
  go_frame
  go_loopw [5] (fun o wr => ∃ (R out : List FW), IterAt wr w.heap.size M R ∧ (out ++ R).Perm L ∧ HoldF wr (w.heap.size + 1) o out ∧ Below w.heap.size w wr ∧ w.heap.size < wr.heap.size) (fun _ wr => iterLeft wr w.heap.size M)
  case atStart => exact ⟨L, [], hI, by simp, HoldG.nil _ _, hb0, by omega⟩
  case round =>
    obtain ⟨R, out, hI0, hp0, H0, g0, hz0⟩ := hrel
    have hlR : out.length + R.length = L.length := by have := hp0.length_eq; rw [List.length_append] at this; exact this
    have hm0 := iterLeft_eq hI0
    obtain ⟨oa, oc, rfl⟩ := H0.slice
    go_wp2_with (refine wpList_next_f rfl (.tmp 14) rfl (w.heap.size) M R (by rfl) hI0 ?_ ?_)
    · intro hR0
      subst hR0
      rw [List.append_nil] at hp0
      have hlen : out.length = L.length := by simpa using hlR
      have HLen := hide hlen
      have hol : out.length ≤ 300 := by omega
      clear hlR
      have KS := hide (flSort (w.heap.size + 1) (.slice oa out.length oc) out wr H0 (by omega))
      have hpL := hp0
      clear hm0 hlen
      go_wp2_with fail
      refine KS.out.mono ?_
      rintro e w2 ⟨rfl, S, hperm, hsort, ⟨a, cap, g, hv, hcc, hca, hcg, hat⟩, hb2⟩
      simp at hv
      obtain ⟨rfl, rfl⟩ := hv
      have g2 : Below w.heap.size w w2 := g0.trans (hb2.mono (Nat.le_succ _))
      have hz2 := g2.size
      have hmx : (max n 0 : Int) = if n < 0 then 0 else n := by omega
      by_cases c1 : n < 0
      · have d1 : decide (n < 0) = true := decide_eq_true c1; have hx0 : (0 : Int) ≤ (out.length : Int) := (by omega); have hx1 : ¬ (out.length : Int) < 0 := by omega
        go_wp2
        go_ret
        have hlen := HLen.out
        refine ⟨S, _, g, _, 0, rfl, by omega, hperm.trans hpL, hsort, by omega, fun h => hca (fun e => h (by rw [e] at hlen; exact List.length_eq_zero_iff.1 hlen.symm)), fun h => hcg (fun e => h (by rw [e] at hlen; exact List.length_eq_zero_iff.1 hlen.symm)), hat, by (repeat' (first | (with_reducible (first | exact Below.refl _ _ | assumption | refine below_drewN ?_ _ | refine Below.drew ?_ | refine Below.alloc ?_ ?_ _ | refine Below.setCell ?_ ?_ _)) | go_size))⟩
      · by_cases c2 : (out.length : Int) < n
        · have d1 : decide (n < 0) = false := decide_eq_false c1; have d2 : decide ((out.length : Int) < n) = true := decide_eq_true c2; have hx3 : ¬ n ≤ (out.length : Int) := (by omega); have hx4 : ¬ n < (out.length : Int) := (by omega); have hmn : min n (out.length : Int) = (out.length : Int) := by omega
          go_wp2
          go_ret
          have hlen := HLen.out
          refine ⟨S, _, g, _, out.length, rfl, by omega, hperm.trans hpL, hsort, by omega, fun h => hca (fun e => h (by rw [e] at hlen; exact List.length_eq_zero_iff.1 hlen.symm)), fun h => hcg (fun e => h (by rw [e] at hlen; exact List.length_eq_zero_iff.1 hlen.symm)), hat, by (repeat' (first | (with_reducible (first | exact Below.refl _ _ | assumption | refine below_drewN ?_ _ | refine Below.drew ?_ | refine Below.alloc ?_ ?_ _ | refine Below.setCell ?_ ?_ _)) | go_size))⟩
        · obtain ⟨m, rfl⟩ : ∃ m : Nat, n = (m : Int) := ⟨n.toNat, by omega⟩
          have hmo : m ≤ out.length := by omega
          have d1 : decide ((m : Int) < 0) = false := decide_eq_false c1; have d2 : decide ((out.length : Int) < (m : Int)) = false := decide_eq_false c2; have hx3 : (m : Int) ≤ (out.length : Int) := (by omega); have hx5 : m ≤ oc := (by omega); have hx6 : (m : Int) ≤ (oc : Int) := (by omega); have hmn : min (m : Int) (out.length : Int) = (m : Int) := by omega
          go_wp2
          go_ret
          have hlen := HLen.out
          refine ⟨S, _, g, _, m, rfl, by omega, hperm.trans hpL, hsort, by omega, fun h => hca (fun e => h (by rw [e] at hlen; exact List.length_eq_zero_iff.1 hlen.symm)), fun h => hcg (fun e => h (by rw [e] at hlen; exact List.length_eq_zero_iff.1 hlen.symm)), hat, by (repeat' (first | (with_reducible (first | exact Below.refl _ _ | assumption | refine below_drewN ?_ _ | refine Below.drew ?_ | refine Below.alloc ?_ ?_ _ | refine Below.setCell ?_ ?_ _)) | go_size))⟩
    · intro R1 f R2 w1 hR hI1 hb1 hs1 ho1 hen
      subst hR
      have g1 : Below w.heap.size w w1 := g0.trans hb1
      have hz1 := g1.size
      have hzz : w.heap.size < w1.heap.size := by omega
      have hol : out.length ≤ 300 := by simp at hlR; omega
      clear hs1 hlR
      have H1 : HoldF w1 (w.heap.size + 1) (.slice oa out.length oc) out := H0.kept (Nat.lt_succ_self _) ho1
      go_wp2_with (refine wpList_append_g Try.underlying84 fl_info45 rfl fvs_len fvs_one (by decide) (by decide) rfl (.tmp 19) (.tmp 21) rfl (w.heap.size + 1) (.slice oa out.length oc) out f (w1.heap.size + 1) #[.int .u16 f.k.a, .int .u16 f.k.b, .int .u16 f.k.c, .int .u16 f.k.d, .int .u64 f.p, .int .u64 f.b] rfl (by rfl) (by rfl) (H1.below (by (repeat' (first | (with_reducible (first | exact Below.refl _ _ | assumption | refine below_drewN ?_ _ | refine Below.drew ?_ | refine Below.alloc ?_ ?_ _ | refine Below.setCell ?_ ?_ _)) | go_size)))) (by (repeat' (first | (with_reducible (first | assumption | exact Blk.alloc_new _ _ _ (by first | rfl | (simp; done) | omega) | apply Blk.drewN | apply Blk.drew | apply Blk.alloc_old | apply Blk.set_same | apply Blk.set_other)) | (show (_ : Nat) ≠ _; first | omega | (simp; done) | (simp; omega)) | ((simp only [List.setIfInBounds_toArray, List.set_cons_succ, List.set_cons_zero]); (with_reducible exact rfl)) | (with_reducible exact rfl) | (show (_ : Array Value) = _; exact rfl)))) (by omega) (by simp; omega) ?_; intro v2 w2 H2 hb2 hs2 hk2; have g2 : Below w.heap.size w w2 := Below.trans (by (repeat' (first | (with_reducible (first | exact Below.refl _ _ | assumption | refine below_drewN ?_ _ | refine Below.drew ?_ | refine Below.alloc ?_ ?_ _ | refine Below.setCell ?_ ?_ _)) | go_size))) (hb2.mono (Nat.le_succ _)); have hz2 := g2.size; have hI2 : IterAt w2 w.heap.size M (R1 ++ R2) := hI1.below (K := w.heap.size + 1) (Below.trans (Below.mono (show Below w1.heap.size w1 _ from (by (repeat' (first | (with_reducible (first | exact Below.refl _ _ | assumption | refine below_drewN ?_ _ | refine Below.drew ?_ | refine Below.alloc ?_ ?_ _ | refine Below.setCell ?_ ?_ _)) | go_size)))) (by omega)) hb2) (Nat.lt_succ_self _) (by omega))
      go_roundw
      case rel => exact ⟨R1 ++ R2, out ++ [f], hI2, by refine List.Perm.trans ?_ hp0; rw [List.append_assoc]; exact List.Perm.append_left out (show (f :: (R1 ++ R2)).Perm (R1 ++ f :: R2) from List.perm_middle.symm), H2, g2, by have := hb2.size; simp at this; omega⟩
      case measure => rw [iterLeft_eq hI2, hm0]; simp
end Go.Proofs.Ytljpiofpfankoaa
