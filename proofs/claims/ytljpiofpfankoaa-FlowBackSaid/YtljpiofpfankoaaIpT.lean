/-
  Plain laws of datagrams: decode of encode, encode of decode, a datagram of which a byte is changed. No program in sight. Conditions: bytes.
-/
import Derived.Test.YtljpiofpfankoaaIpP
namespace Go.Proofs.Ytljpiofpfankoaa
open Go.RowKit Go.Sort
set_option linter.unusedVariables false
set_option linter.unusedSimpArgs false
theorem head_of (l : List Int) (i : Nat) (h : i < l.length) : l.drop i = l.getD i 0 :: l.drop (i + 1) := by
  rw [List.drop_eq_getElem_cons h, List.getD_eq_getElem?_getD, List.getElem?_eq_getElem h]; rfl
theorem twenty (l : List Int) (h : 20 ≤ l.length) : l = l.getD 0 0 :: l.getD 1 0 :: l.getD 2 0 :: l.getD 3 0 :: l.getD 4 0 :: l.getD 5 0 :: l.getD 6 0 :: l.getD 7 0 :: l.getD 8 0 :: l.getD 9 0 :: l.getD 10 0 :: l.getD 11 0 :: l.getD 12 0 :: l.getD 13 0 :: l.getD 14 0 :: l.getD 15 0 :: l.getD 16 0 :: l.getD 17 0 :: l.getD 18 0 :: l.getD 19 0 :: l.drop 20 := by
  have e : l = l.drop 0 := rfl
  conv => lhs; rw [e, head_of l 0 (by omega), head_of l 1 (by omega), head_of l 2 (by omega), head_of l 3 (by omega), head_of l 4 (by omega), head_of l 5 (by omega), head_of l 6 (by omega), head_of l 7 (by omega), head_of l 8 (by omega), head_of l 9 (by omega), head_of l 10 (by omega), head_of l 11 (by omega), head_of l 12 (by omega), head_of l 13 (by omega), head_of l 14 (by omega), head_of l 15 (by omega), head_of l 16 (by omega), head_of l 17 (by omega), head_of l 18 (by omega), head_of l 19 (by omega)]

theorem full_self {o : List Int} (h : o.length % 4 = 0) : full o = o := by
  rw [full_eq o 0 (by omega)]; simp
theorem full_forty {o : List Int} (h : o.length ≤ 40) : (full o).length ≤ 40 ∧ (full o).length % 4 = 0 := by
  have := full_len o; omega
def HD.filled (h : HD) : HD := ⟨h.tos, h.id, h.fl, h.off, h.ttl, h.pr, h.src, h.dst, full h.o⟩
/-- The encoded bytes, one by one. -/
theorem enc_list (h : HD) (b : List Int) : encR h b = (64 + (20 + ((full h.o).length : Int)) / 4) :: h.tos :: ((20 + ((full h.o).length : Int) + b.length) / 256) :: ((20 + ((full h.o).length : Int) + b.length) % 256) :: (h.id / 256) :: (h.id % 256) :: (h.P / 256) :: (h.P % 256) :: h.ttl :: h.pr :: (ckB h b.length / 256) :: (ckB h b.length % 256) :: (h.src / 16777216) :: (h.src / 65536 % 256) :: (h.src / 256 % 256) :: (h.src % 256) :: (h.dst / 16777216) :: (h.dst / 65536 % 256) :: (h.dst / 256 % 256) :: (h.dst % 256) :: (full h.o ++ b) := rfl
theorem enc_len (h : HD) (b : List Int) : (encR h b).length = 20 + (full h.o).length + b.length := by
  rw [enc_list]; simp only [List.length_cons, List.length_append]; omega
theorem enc_sz {h : HD} {b : List Int} (hw : wrongR h b.length = 0) : szR (encR h b) = 20 + (full h.o).length := by
  obtain ⟨h1, h2, h3, h4⟩ := wrong_zero hw
  have := full_forty h3
  have e : (encR h b).getD 0 0 = 64 + (20 + ((full h.o).length : Int)) / 4 := rfl
  unfold szR; rw [e]; omega
theorem enc_ckL {h : HD} {b : List Int} (hw : wrongR h b.length = 0) : ckL (encR h b) = frB h b.length ++ (adB h ++ full h.o) := by
  unfold ckL
  rw [enc_sz hw, show 20 + (full h.o).length - 12 = 8 + (full h.o).length by omega]
  have e1 : (encR h b).take 10 = frB h b.length := rfl
  have e2 : (encR h b).drop 12 = adB h ++ (full h.o ++ b) := rfl
  rw [e1, e2]
  congr 1
  rw [show 8 + (full h.o).length = (adB h).length + (full h.o).length from rfl, List.take_length_add_append, List.take_left]
theorem dec_enc {h : HD} {b : List Int} (ok : h.ok) (hw : wrongR h b.length = 0) : badR (encR h b) = 0 ∧ hdL (encR h b) = h.filled ∧ bdL (encR h b) = b := by
  obtain ⟨h1, h2, h3, h4⟩ := wrong_zero hw
  have hF := full_forty h3
  have hck := ck_rng ok hw
  have hsz := enc_sz hw
  have hlen := enc_len h b
  obtain ⟨o1, o2, o3, o4, o5, o6, o7, o8, o9⟩ := ok
  have g0 : (encR h b).getD 0 0 = 64 + (20 + ((full h.o).length : Int)) / 4 := rfl
  have hal : alR (encR h b) = 20 + ((full h.o).length : Int) + b.length := by
    show (20 + ((full h.o).length : Int) + b.length) / 256 * 256 + (20 + ((full h.o).length : Int) + b.length) % 256 = _
    omega
  have hcc : (encR h b).getD 10 0 * 256 + (encR h b).getD 11 0 = ckB h b.length := by
    show ckB h b.length / 256 * 256 + ckB h b.length % 256 = _
    omega
  have hP : h.P = h.fl * 8192 + h.off := rfl
  refine ⟨?_, ?_, ?_⟩
  · unfold badR
    rw [if_neg (by omega), if_neg (by rw [g0]; omega), hal, hsz, hlen, if_neg (by omega), if_neg (by omega), if_neg (by omega), hcc, enc_ckL hw, if_neg]
    exact Decidable.not_not.2 rfl
  · have hpt : ptL (encR h b) = h.P := by
      show h.P / 256 * 256 + h.P % 256 = _
      omega
    have hop : ((encR h b).drop 20).take (szR (encR h b) - 20) = full h.o := by
      have e : (encR h b).drop 20 = full h.o ++ b := rfl
      rw [hsz, e, show 20 + (full h.o).length - 20 = (full h.o).length by omega, List.take_left]
    unfold hdL HD.filled
    rw [hpt, hop]
    congr 1
    · show h.id / 256 * 256 + h.id % 256 = _; omega
    · omega
    · omega
    · show ((h.src / 16777216 * 256 + h.src / 65536 % 256) * 256 + h.src / 256 % 256) * 256 + h.src % 256 = _; omega
    · show ((h.dst / 16777216 * 256 + h.dst / 65536 % 256) * 256 + h.dst / 256 % 256) * 256 + h.dst % 256 = _; omega
  · unfold bdL
    rw [hsz]
    have e : (encR h b).drop 20 = full h.o ++ b := rfl
    rw [← List.drop_drop, e, List.drop_left]
theorem hdL_ok {l : List Int} (hl : Byt l) : (hdL l).ok := by
  have q := fun k => hl.get k
  have q1 := q 1; have q4 := q 4; have q5 := q 5; have q6 := q 6; have q7 := q 7; have q8 := q 8; have q9 := q 9; have q12 := q 12; have q13 := q 13; have q14 := q 14; have q15 := q 15; have q16 := q 16; have q17 := q 17; have q18 := q 18; have q19 := q 19
  have hp : ptL l = l.getD 6 0 * 256 + l.getD 7 0 := rfl
  unfold HD.ok hdL
  simp only
  refine ⟨q1, by omega, by omega, by omega, q8, q9, by omega, by omega, ?_⟩
  intro x hx
  exact hl x (List.mem_of_mem_drop (List.mem_of_mem_take hx))
theorem enc_dec {l : List Int} (hl : Byt l) (h0 : badR l = 0) : wrongR (hdL l) (bdL l).length = 0 ∧ encR (hdL l) (bdL l) = l := by
  obtain ⟨k0, k1, k2, k3, k4, k5⟩ := bad_zero h0
  have hsz := szR_eq hl
  have q := fun k => hl.get k
  have hal : alR l = l.getD 2 0 * 256 + l.getD 3 0 := rfl
  have q2 := q 2; have q3 := q 3
  have hop : ((l.drop 20).take (szR l - 20)).length = szR l - 20 := by rw [List.length_take, List.length_drop]; omega
  have hoe : (hdL l).o = (l.drop 20).take (szR l - 20) := rfl
  have hF : full (hdL l).o = (l.drop 20).take (szR l - 20) := by rw [hoe]; exact full_self (by rw [hop]; omega)
  have hFl : (full (hdL l).o).length = szR l - 20 := by rw [hF, hop]
  have hbl : (bdL l).length = l.length - szR l := by unfold bdL; rw [List.length_drop]
  have q6 := q 6; have q7 := q 7
  have hp : ptL l = l.getD 6 0 * 256 + l.getD 7 0 := rfl
  have f1 : (hdL l).fl = ptL l / 8192 := rfl
  have f2 : (hdL l).off = ptL l % 8192 := rfl
  have hw : wrongR (hdL l) (bdL l).length = 0 := by
    unfold wrongR
    rw [f1, f2, hFl, hbl, hoe, hop, if_neg (by omega), if_neg (by omega)]
  refine ⟨hw, ?_⟩
  have hPe : (hdL l).P = ptL l := by show ptL l / 8192 * 8192 + ptL l % 8192 = _; omega
  have q1 := q 1; have q4 := q 4; have q5 := q 5; have q8 := q 8; have q9 := q 9; have q10 := q 10; have q11 := q 11; have q12 := q 12; have q13 := q 13; have q14 := q 14; have q15 := q 15; have q16 := q 16; have q17 := q 17; have q18 := q 18; have q19 := q 19
  have t20 := twenty l k0
  have hfr : frB (hdL l) (bdL l).length = l.take 10 := by
    have e : l.take 10 = [l.getD 0 0, l.getD 1 0, l.getD 2 0, l.getD 3 0, l.getD 4 0, l.getD 5 0, l.getD 6 0, l.getD 7 0, l.getD 8 0, l.getD 9 0] := by
      conv => lhs; rw [t20]
      rfl
    rw [e]
    unfold frB
    rw [hFl, hbl, hPe]
    have e1 : (hdL l).id = l.getD 4 0 * 256 + l.getD 5 0 := rfl
    rw [e1]
    rw [show 64 + (20 + ((szR l - 20 : Nat) : Int)) / 4 = l.getD 0 0 by omega, show (20 + ((szR l - 20 : Nat) : Int) + ((l.length - szR l : Nat) : Int)) / 256 = l.getD 2 0 by omega, show (20 + ((szR l - 20 : Nat) : Int) + ((l.length - szR l : Nat) : Int)) % 256 = l.getD 3 0 by omega, show (l.getD 4 0 * 256 + l.getD 5 0) / 256 = l.getD 4 0 by omega, show (l.getD 4 0 * 256 + l.getD 5 0) % 256 = l.getD 5 0 by omega, show ptL l / 256 = l.getD 6 0 by omega, show ptL l % 256 = l.getD 7 0 by omega]
    rfl
  have had : adB (hdL l) = [l.getD 12 0, l.getD 13 0, l.getD 14 0, l.getD 15 0, l.getD 16 0, l.getD 17 0, l.getD 18 0, l.getD 19 0] := by
    unfold adB
    have e1 : (hdL l).src = ((l.getD 12 0 * 256 + l.getD 13 0) * 256 + l.getD 14 0) * 256 + l.getD 15 0 := rfl
    have e2 : (hdL l).dst = ((l.getD 16 0 * 256 + l.getD 17 0) * 256 + l.getD 18 0) * 256 + l.getD 19 0 := rfl
    obtain ⟨s, hs⟩ : ∃ s, (hdL l).src = s := ⟨_, rfl⟩
    obtain ⟨d, hd⟩ : ∃ d, (hdL l).dst = d := ⟨_, rfl⟩
    rw [hs] at e1; rw [hd] at e2
    rw [hs, hd]
    rw [show s / 16777216 = l.getD 12 0 by omega, show s / 65536 % 256 = l.getD 13 0 by omega, show s / 256 % 256 = l.getD 14 0 by omega, show s % 256 = l.getD 15 0 by omega, show d / 16777216 = l.getD 16 0 by omega, show d / 65536 % 256 = l.getD 17 0 by omega, show d / 256 % 256 = l.getD 18 0 by omega, show d % 256 = l.getD 19 0 by omega]
  have hd12 : l.drop 12 = adB (hdL l) ++ l.drop 20 := by
    rw [had]
    conv => lhs; rw [t20]
    rfl
  have hck : ckB (hdL l) (bdL l).length = l.getD 10 0 * 256 + l.getD 11 0 := by
    unfold ckB
    rw [k5, hfr, hF]
    unfold ckL
    rw [hd12, show szR l - 12 = (adB (hdL l)).length + (szR l - 20) by show _ = 8 + _; omega, List.take_length_add_append]
  have hbd : full (hdL l).o ++ bdL l = l.drop 20 := by
    rw [hF]; unfold bdL
    rw [show szR l = 20 + (szR l - 20) by omega, ← List.drop_drop, show 20 + (szR l - 20) - 20 = szR l - 20 by omega, List.take_append_drop]
  unfold encR
  rw [hfr, hck, hbd, show (l.getD 10 0 * 256 + l.getD 11 0) / 256 = l.getD 10 0 by omega, show (l.getD 10 0 * 256 + l.getD 11 0) % 256 = l.getD 11 0 by omega, had]
  conv => rhs; rw [t20]
  have e : l.take 10 = [l.getD 0 0, l.getD 1 0, l.getD 2 0, l.getD 3 0, l.getD 4 0, l.getD 5 0, l.getD 6 0, l.getD 7 0, l.getD 8 0, l.getD 9 0] := by
    conv => lhs; rw [t20]
    rfl
  rw [e]
  rfl
theorem wk_set (l : List Int) (j : Nat) (v : Int) (hj : j < l.length) : ∀ k, wk (l.set j v) k = wk l k + (if j < k then (v - l.getD j 0) * (if j % 2 = 0 then 256 else 1) else 0)
  | 0 => by simp [wk]
  | k + 1 => by
    show wk (l.set j v) k + (if k % 2 = 0 then 256 * (l.set j v).getD k 0 else (l.set j v).getD k 0) = wk l k + (if k % 2 = 0 then 256 * l.getD k 0 else l.getD k 0) + _
    rw [wk_set l j v hj k]
    by_cases e : j = k
    · subst e
      have : (l.set j v).getD j 0 = v := by simp [List.getD_eq_getElem?_getD, hj]
      rw [this, if_neg (Nat.lt_irrefl j), if_pos (Nat.lt_succ_self j)]
      by_cases hp : j % 2 = 0
      · rw [if_pos hp, if_pos hp, if_pos hp]; omega
      · rw [if_neg hp, if_neg hp, if_neg hp]; omega
    · have : (l.set j v).getD k 0 = l.getD k 0 := by simp [List.getD_eq_getElem?_getD, List.getElem?_set_ne e]
      rw [this]
      generalize (if k % 2 = 0 then 256 * l.getD k 0 else l.getD k 0) = z
      by_cases hk : j < k
      · rw [if_pos hk, if_pos (show j < k + 1 by omega)]; omega
      · rw [if_neg hk, if_neg (show ¬ j < k + 1 by omega)]; omega
theorem sum_set {l : List Int} {j : Nat} {v : Int} (hl : Byt l) (hv : 0 ≤ v ∧ v ≤ 255) (hj : j < l.length) (hne : v ≠ l.getD j 0) : sumS (l.set j v) ≠ sumS l := by
  have hs : Byt (l.set j v) := fun x hx => (List.mem_or_eq_of_mem_set hx).elim (hl x) (fun e => e ▸ hv)
  have h1 := (wk_rng hl l.length).1
  have h2 := (wk_rng hs l.length).1
  have hg := hl.get j
  have e := wk_set l j v hj l.length
  rw [if_pos hj] at e
  unfold sumS
  rw [List.length_set]
  obtain ⟨a, ha⟩ : ∃ a, wk l l.length = a := ⟨_, rfl⟩
  obtain ⟨c, hc⟩ : ∃ c, wk (l.set j v) l.length = c := ⟨_, rfl⟩
  rw [ha] at h1 e; rw [hc] at h2 e
  rw [ha, hc]
  unfold csum
  by_cases hp : j % 2 = 0
  · rw [if_pos hp] at e
    split <;> split <;> omega
  · rw [if_neg hp] at e
    split <;> split <;> omega
theorem lset_self (l : List Int) (i : Nat) (v : Int) (h : i < l.length) : (l.set i v).getD i 0 = v := by simp [List.getD_eq_getElem?_getD, h]
theorem lset_off (l : List Int) (i k : Nat) (v : Int) (h : i ≠ k) : (l.set i v).getD k 0 = l.getD k 0 := by simp [List.getD_eq_getElem?_getD, List.getElem?_set_ne h]
/-- A byte of the header, but the first one, is changed: no datagram any more. -/
theorem turned {l : List Int} {i : Nat} {v : Int} (hl : Byt l) (h0 : badR l = 0) (hi : 1 ≤ i) (hs : i < szR l) (hv : 0 ≤ v ∧ v ≤ 255) (hne : v ≠ l.getD i 0) : badR (l.set i v) ≠ 0 := by
  intro hb
  obtain ⟨k0, k1, k2, k3, k4, k5⟩ := bad_zero h0
  obtain ⟨j0, j1, j2, j3, j4, j5⟩ := bad_zero hb
  have il : i < l.length := by omega
  have hsz := szR_eq hl
  have e0 : (l.set i v).getD 0 0 = l.getD 0 0 := lset_off l i 0 v (by omega)
  have esz : szR (l.set i v) = szR l := by unfold szR; rw [e0]
  rw [List.length_set] at j4
  have q2 := hl.get 2; have q3 := hl.get 3; have q10 := hl.get 10; have q11 := hl.get 11
  have hal : alR (l.set i v) = alR l := by omega
  unfold alR at hal
  have hlc : (ckL l).length = szR l - 2 := by unfold ckL; rw [List.length_append, List.length_take, List.length_take, List.length_drop]; omega
  have hcb : Byt (ckL l) := by
    unfold ckL; intro x hx
    rcases List.mem_append.1 hx with hx | hx
    · exact hl x (List.mem_of_mem_take hx)
    · exact hl x (List.mem_of_mem_drop (List.mem_of_mem_take hx))
  by_cases i2 : i = 2
  · subst i2
    rw [lset_self l 2 v il, lset_off l 2 3 v (by omega)] at hal; omega
  by_cases i3 : i = 3
  · subst i3
    rw [lset_self l 3 v il, lset_off l 3 2 v (by omega)] at hal; omega
  by_cases i10 : i < 10
  · have ec : ckL (l.set i v) = (ckL l).set i v := by
      unfold ckL
      rw [esz, List.take_set, List.drop_set_of_lt (by omega), List.set_append_left _ _ (by rw [List.length_take]; omega)]
    rw [ec, lset_off l i 10 v (by omega), lset_off l i 11 v (by omega), k5] at j5
    refine sum_set (j := i) hcb hv (by omega) ?_ (by omega)
    have : (ckL l).getD i 0 = l.getD i 0 := by
      unfold ckL
      rw [List.getD_eq_getElem?_getD, List.getElem?_append_left (by rw [List.length_take]; omega), List.getElem?_take_of_lt i10, List.getD_eq_getElem?_getD]
    rw [this]; exact hne
  by_cases i12 : i < 12
  · have ec : ckL (l.set i v) = ckL l := by
      unfold ckL
      rw [esz, List.take_set_of_le (by omega), List.drop_set_of_lt (by omega)]
    rw [ec] at j5
    have : i = 10 ∨ i = 11 := by omega
    rcases this with rfl | rfl
    · rw [lset_self l 10 v il, lset_off l 10 11 v (by omega)] at j5; omega
    · rw [lset_self l 11 v il, lset_off l 11 10 v (by omega)] at j5; omega
  · have ec : ckL (l.set i v) = (ckL l).set (i - 2) v := by
      unfold ckL
      rw [esz, List.take_set_of_le (by omega), List.drop_set, if_neg (by omega), List.take_set, List.set_append_right _ _ (by rw [List.length_take]; omega), List.length_take, show i - 2 - min 10 l.length = i - 12 by omega]
    rw [ec, lset_off l i 10 v (by omega), lset_off l i 11 v (by omega), k5] at j5
    refine sum_set (j := i - 2) hcb hv (by omega) ?_ (by omega)
    have : (ckL l).getD (i - 2) 0 = l.getD i 0 := by
      unfold ckL
      rw [List.getD_eq_getElem?_getD, List.getElem?_append_right (by rw [List.length_take]; omega), List.getElem?_take_of_lt (by rw [List.length_take]; omega), List.getElem?_drop, List.length_take, show 12 + (i - 2 - min 10 l.length) = i by omega, List.getD_eq_getElem?_getD]
    rw [this]; exact hne
end Go.Proofs.Ytljpiofpfankoaa
