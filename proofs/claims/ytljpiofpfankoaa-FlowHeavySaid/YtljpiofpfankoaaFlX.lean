/-
  The reference's tables of flows: Find, Add. Conditions: what the slice holds is known.
-/
import Derived.Test.YtljpiofpfankoaaFlT
import Derived.Test.YtljpiofpfankoaaHold
import Derived.Test.YtljpiofpfankoaaGuarV
namespace Go.Proofs.Ytljpiofpfankoaa
open Go.RowKit Go.Sort
set_option linter.unusedVariables false
set_option linter.unusedSimpArgs false
def rvs (f : FW) : List Value := [.int .u16 f.k.a, .int .u16 f.k.b, .int .u16 f.k.c, .int .u16 f.k.d, .int .u64 f.p, .int .u64 f.b]
theorem rvs_len (f : FW) : (rvs f).length = 6 := rfl
theorem rvs_one (f : FW) : ∀ u ∈ rvs f, u.oneCell' = true := by
  intro u hu
  unfold rvs at hu
  simp at hu
  rcases hu with rfl | rfl | rfl | rfl | rfl | rfl <;> rfl
abbrev HoldR := HoldG (α := FW) 90 6 rvs
theorem setFrom_mid : ∀ (vs mid pre post : List Value), mid.length = vs.length → setFrom (pre ++ (mid ++ post)).toArray pre.length vs = (pre ++ (vs ++ post)).toArray
  | [], [], pre, post, _ => by simp [setFrom]
  | [], _ :: _, _, _, h => by simp at h
  | v :: r, [], _, _, h => by simp at h
  | v :: r, m :: mid, pre, post, h => by
    unfold setFrom
    have e1 : (pre ++ (m :: mid ++ post)).toArray.setIfInBounds pre.length v = ((pre ++ [v]) ++ (mid ++ post)).toArray := by
      simp [List.setIfInBounds_toArray, List.set_append_right]
    rw [e1, show pre.length + 1 = (pre ++ [v]).length by simp, setFrom_mid r mid (pre ++ [v]) post (by simpa using h)]
    simp
/-- One thing of such a slice is stored anew. -/
theorem HoldG.set {α : Type} {e : TypeId} {n : Nat} {enc : α → List Value} (hn : ∀ x, (enc x).length = n) {w : World} {base g cap : Nat} {L : List α} (h : HoldG e n enc w base (.slice (some ⟨g, 0, none⟩) L.length cap) L) (i : Nat) (x : α) (hi : i < L.length) :
    HoldG e n enc (w.setCells g (i * n) (enc x)) base (.slice (some ⟨g, 0, none⟩) L.length cap) (L.set i x) ∧ w.there g (i * n) n ∧ base ≤ g := by
  obtain ⟨h1, h2⟩ := h
  rcases h2 with ⟨e1, h0⟩ | ⟨g', cap', cur, hv, hg, hh, hc, hm, hs, ht⟩
  · exact absurd e1 (by simp)
  · simp at hv
    obtain ⟨rfl, rfl⟩ := hv
    have hB : Blk w g cur e := hh
    have hlen : cur.toList.length = cap * n := by simpa using hs
    have hle : L.length * n ≤ cap * n := Nat.mul_le_mul_right n hc
    have hin : (i + 1) * n ≤ L.length * n := Nat.mul_le_mul_right n hi
    rw [Nat.add_mul] at hin
    obtain ⟨L1, y, L2, hL, hl1⟩ : ∃ L1 y L2, L = L1 ++ y :: L2 ∧ L1.length = i := ⟨L.take i, L[i], L.drop (i + 1), by rw [← List.drop_eq_getElem_cons hi, List.take_append_drop], by rw [List.length_take]; omega⟩
    have hcur : cur.toList = (L1.flatMap enc) ++ (enc y ++ (L2.flatMap enc ++ cur.toList.drop (L.length * n))) := by
      have h4 := List.take_append_drop (L.length * n) cur.toList
      rw [ht] at h4
      have e : L.flatMap enc = L1.flatMap enc ++ (enc y ++ L2.flatMap enc) := by rw [hL, List.flatMap_append, List.flatMap_cons]
      generalize List.drop (L.length * n) cur.toList = D at h4 ⊢
      rw [e] at h4
      exact h4.symm.trans (by simp [List.append_assoc])
    have hset : setFrom cur (i * n) (enc x) = ((L1.flatMap enc) ++ (enc x ++ (L2.flatMap enc ++ cur.toList.drop (L.length * n)))).toArray := by
      have h3 := setFrom_mid (enc x) (enc y) (L1.flatMap enc) (L2.flatMap enc ++ cur.toList.drop (L.length * n)) (by rw [hn, hn])
      rw [← hcur, flat_len hn, hl1] at h3
      simpa using h3
    have hB' := Blk.setCells (enc x) (i * n) w cur hB
    rw [hset] at hB'
    have hLs : L.set i x = L1 ++ x :: L2 := by rw [hL, List.set_append_right _ _ (by omega), hl1]; simp
    refine ⟨⟨?_, .inr ⟨g, cap, _, ?_, hg, hB', ?_, hm, ?_, ?_⟩⟩, fun j hj => ⟨?_, hB.frozen _⟩, hg⟩
    · rw [flat_len hn]
    · rw [List.length_set]
    · rw [List.length_set]; exact hc
    · have : (((L1.flatMap enc) ++ (enc x ++ (L2.flatMap enc ++ cur.toList.drop (L.length * n)))).toArray).size = cur.toList.length := by
        conv => rhs; rw [hcur]
        simp [hn]
      rw [this, hlen]
    · rw [List.length_set, hLs, List.flatMap_append, List.flatMap_cons]
      show ((L1.flatMap enc) ++ (enc x ++ (L2.flatMap enc ++ cur.toList.drop (L.length * n)))).take (L.length * n) = _
      have e2 : (L1.flatMap enc) ++ (enc x ++ (L2.flatMap enc ++ cur.toList.drop (L.length * n))) = ((L1.flatMap enc) ++ (enc x ++ L2.flatMap enc)) ++ cur.toList.drop (L.length * n) := by simp [List.append_assoc]
      rw [e2]
      refine List.take_left' ?_
      rw [List.length_append, List.length_append, flat_len hn, flat_len hn, hn, hL, List.length_append, List.length_cons, Nat.add_mul, Nat.add_mul]; omega
    · rw [hB.cell, Array.getElem?_eq_getElem (by omega)]; rfl
def fidx (L : List FW) (k : K4) : Int := match findF L k 0 with | some p => p.1 | none => -1
theorem kneq3 {k j : K4} (h : k ≠ j) (v : World) : (binOp .eql 48 (kv k) (kv j)).run Try.prog v = .ok (.bool false) v := by
  rw [run_eql_struct]
  have := eqk k j v
  rw [show (Op.equalIn 10000 48 (kv k) (kv j)).run Try.prog v = .ok (decide (k = j)) v from this, decide_eq_false h]; rfl
set_option maxRecDepth 100000 in
set_option maxHeartbeats 4000000 in
theorem rFind (L : List FW) (k : K4) (a : Option Addr) (b off cap : Nat) (r : Int) (w : World) (ha : L ≠ [] → a = some ⟨b, off, none⟩) (hb : L ≠ [] → b < w.heap.size) (hL : AtG 6 rvs w b off L) (hn : L.length ≤ 100000) (hr : fidx L k = r) :
    Calls Try.prog 37 #[.slice a L.length cap, .agg #[.int .u16 k.a, .int .u16 k.b, .int .u16 k.c, .int .u16 k.d]] w fun x w' => x = .returned (.int .i64 r) ∧ Below w.heap.size w w' := by
  have HR : Hid ((match findF (L.drop 0) k 0 with | some p => (p.1 : Int) | none => -1) = r) := hide hr
  clear hr
  go_enter Try.func37, Try.ntmps37
  go_wp2
  go_loopw [9] (fun i wr => ∃ n : Nat, n ≤ L.length ∧ i = .int .i64 n ∧ Blk wr w.heap.size #[.int .u16 k.a, .int .u16 k.b, .int .u16 k.c, .int .u16 k.d] 48 ∧ Below w.heap.size w wr ∧ Hid ((match findF (L.drop n) k n with | some p => (p.1 : Int) | none => -1) = r)) (fun i _ => L.length - (intOf i).toNat)
  case atStart => exact ⟨0, Nat.zero_le _, rfl, by (repeat' (first | (with_reducible (first | assumption | exact Blk.alloc_new _ _ _ (by first | rfl | (simp; done) | omega) | apply Blk.drewN | apply Blk.drew | apply Blk.alloc_old | apply Blk.set_same | apply Blk.set_other)) | (show (_ : Nat) ≠ _; first | omega | (simp; done) | (simp; omega)) | ((simp only [List.setIfInBounds_toArray, List.set_cons_succ, List.set_cons_zero]); (with_reducible exact rfl)) | (with_reducible exact rfl) | (show (_ : Array Value) = _; exact rfl))), by (repeat' (first | (with_reducible (first | exact Below.refl _ _ | assumption | refine below_drewN ?_ _ | refine Below.drew ?_ | refine Below.alloc ?_ ?_ _ | refine Below.setCell ?_ ?_ _)) | go_size)), HR⟩
  case round =>
    obtain ⟨n, hnl, rfl, A0, g0, hcc⟩ := hrel
    have cA := A0.cell; have fA := A0.frozen; have zA := A0.size
    have hl0 := g0.size
    by_cases hlt : n < L.length
    · obtain ⟨f, hf⟩ : ∃ f, L[n]? = some f := ⟨_, List.getElem?_eq_getElem hlt⟩
      have hne : L ≠ [] := by intro e; rw [e] at hlt; simp at hlt
      have hbw := hb hne
      obtain rfl := ha hne
      have hAt := hL.below g0 hbw
      have y0 : wr.cell? ⟨b, off + n * 6, none⟩ = some (.int .u16 f.k.a) := hAt n f hf 0 _ rfl
      have y1 : wr.cell? ⟨b, off + n * 6 + 1, none⟩ = some (.int .u16 f.k.b) := hAt n f hf 1 _ rfl
      have y2 : wr.cell? ⟨b, off + n * 6 + 2, none⟩ = some (.int .u16 f.k.c) := hAt n f hf 2 _ rfl
      have y3 : wr.cell? ⟨b, off + n * 6 + 3, none⟩ = some (.int .u16 f.k.d) := hAt n f hf 3 _ rfl
      have y4 : wr.cell? ⟨b, off + n * 6 + 4, none⟩ = some (.int .u64 f.p) := hAt n f hf 4 _ rfl
      have y5 : wr.cell? ⟨b, off + n * 6 + 5, none⟩ = some (.int .u64 f.b) := hAt n f hf 5 _ rfl
      have hni : (n : Int) < (L.length : Int) := by omega
      have hnb : (n : Int) ≤ 100000 := by omega
      have hst := hcc.out
      have hdr : L.drop n = f :: L.drop (n + 1) := by
        obtain ⟨hk', e⟩ := List.getElem?_eq_some_iff.1 hf
        rw [List.drop_eq_getElem_cons hk', e]
      rw [hdr] at hst
      unfold findF at hst
      clear hcc hAt hdr
      by_cases he : k = f.k
      · rw [if_pos he] at hst
        have hres : (n : Int) = r := hst
        have q1 : ∀ v, (binOp .eql 48 (kv f.k) (kv k)).run Try.prog v = .ok (.bool true) v := by rw [he]; exact keq f.k
        clear hst he
        subst hres
        go_wp2
        go_ret
        exact ⟨rfl, by (repeat' (first | (with_reducible (first | exact Below.refl _ _ | assumption | refine below_drewN ?_ _ | refine Below.drew ?_ | refine Below.alloc ?_ ?_ _ | refine Below.setCell ?_ ?_ _)) | go_size))⟩
      · rw [if_neg he] at hst
        have q1 : ∀ v, (binOp .eql 48 (kv f.k) (kv k)).run Try.prog v = .ok (.bool false) v := kneq3 (fun h => he h.symm)
        have hN := hide hst
        clear hst he
        go_wp2
        go_roundw
        case rel => exact ⟨n + 1, by omega, by go_num, by (repeat' (first | (with_reducible (first | assumption | exact Blk.alloc_new _ _ _ (by first | rfl | (simp; done) | omega) | apply Blk.drewN | apply Blk.drew | apply Blk.alloc_old | apply Blk.set_same | apply Blk.set_other)) | (show (_ : Nat) ≠ _; first | omega | (simp; done) | (simp; omega)) | ((simp only [List.setIfInBounds_toArray, List.set_cons_succ, List.set_cons_zero]); (with_reducible exact rfl)) | (with_reducible exact rfl) | (show (_ : Array Value) = _; exact rfl))), by (repeat' (first | (with_reducible (first | exact Below.refl _ _ | assumption | refine below_drewN ?_ _ | refine Below.drew ?_ | refine Below.alloc ?_ ?_ _ | refine Below.setCell ?_ ?_ _)) | go_size)), hN⟩
        case measure => simp [intOf]; omega
    · obtain rfl : n = L.length := by omega
      have hst := hcc.out
      rw [List.drop_length] at hst
      have hres : (-1 : Int) = r := hst
      clear hcc hst
      subst hres
      go_wp2
      go_ret
      exact ⟨rfl, by (repeat' (first | (with_reducible (first | exact Below.refl _ _ | assumption | refine below_drewN ?_ _ | refine Below.drew ?_ | refine Below.alloc ?_ ?_ _ | refine Below.setCell ?_ ?_ _)) | go_size))⟩
end Go.Proofs.Ytljpiofpfankoaa
