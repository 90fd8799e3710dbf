/-
  FlowHeavy: plain laws; the walk. Conditions: what the slices hold is known.
-/
import Derived.Test.YtljpiofpfankoaaFlAC
import Derived.Test.YtljpiofpfankoaaCalm
namespace Go.Proofs.Ytljpiofpfankoaa
open Go.RowKit Go.Sort
set_option linter.unusedVariables false
set_option linter.unusedSimpArgs false
section
open Go.ChangeShapes Go.WideShapes Go.ChangeAt Go.RowKit
set_option linter.unusedVariables false
/-- A slice of numbers: its cells. -/
def RowI (w : World) (a : Option Addr) (len : Nat) (zs : List Int) : Prop :=
  zs.length = len ∧ (len = 0 ∨ ∃ b off, a = some ⟨b, off, none⟩ ∧ b < w.heap.size ∧ ∀ i, i < len → w.cell? ⟨b, off + i, none⟩ = some (.int .i64 (zs.getD i 0)))
theorem RowI.below {w w' : World} {a : Option Addr} {len : Nat} {zs : List Int} (h : RowI w a len zs) (hb : Below w.heap.size w w') : RowI w' a len zs := by
  refine ⟨h.1, ?_⟩
  rcases h.2 with h | ⟨b, off, rfl, hB, hc⟩
  · exact .inl h
  · exact .inr ⟨b, off, rfl, Nat.lt_of_lt_of_le hB hb.size, fun i hi => (hb.cell (p := ⟨b, off + i, none⟩) hB).trans (hc i hi)⟩
theorem rowi_lt {w : World} {b o : Nat} {v : Value} (h : w.cell? ⟨b, o, none⟩ = some v) : b < w.heap.size := by
  by_cases hb : b < w.heap.size
  · exact hb
  · simp [World.cell?, Array.getElem?_eq_none (show w.heap.size ≤ b by omega)] at h
theorem rowi_of {w : World} {a : Option Addr} {len cap : Nat} {zs : List Int} (h : IsRow .i64 w a len cap zs) :
    RowI w a len (zs.take len) ∧ len ≤ maxLen ∧ (∀ z ∈ zs.take len, -9223372036854775808 ≤ z ∧ z ≤ 9223372036854775807) := by
  rcases h with ⟨rfl, rfl, rfl, rfl⟩ | ⟨x, rfl, hl, hm, hz, hcell, hwz⟩
  · exact ⟨⟨rfl, .inl rfl⟩, by unfold maxLen; omega, by simp⟩
  · have hlen : (zs.take len).length = len := by rw [List.length_take]; omega
    refine ⟨⟨hlen, ?_⟩, by omega, fun z hz => bounds_i64 (hwz z (List.mem_of_mem_take hz))⟩
    by_cases h0 : len = 0
    · exact .inl h0
    · right
      obtain ⟨b, off, spot⟩ := x
      have hc := hcell 0 (by omega)
      have hspot : spot = none := by simpa [Addr.add] using World.cell?_spot hc
      subst hspot
      have hall : ∀ i, i < len → w.cell? ⟨b, off + i, none⟩ = some (.int .i64 ((zs.take len).getD i 0)) := by
        intro i hi
        have h1 := hcell i (by omega)
        have h2 : (zs.take len).getD i 0 = zs.getD i 0 := by simp [hi]
        rw [h2]
        by_cases h0 : i = 0
        · subst h0; simpa [Addr.add] using h1
        · simpa [Addr.add, h0] using h1
      exact ⟨b, off, rfl, rowi_lt (hall 0 (by omega)), hall⟩
theorem takei_snoc (zs : List Int) (k : Nat) (h : k < zs.length) : zs.take (k + 1) = zs.take k ++ [zs.getD k 0] := by
  rw [List.take_succ_eq_append_getElem h]; simp [h]
end
def kvs (k : K4) : List Value := [.int .u16 k.a, .int .u16 k.b, .int .u16 k.c, .int .u16 k.d]
theorem kvs_len (k : K4) : (kvs k).length = 4 := rfl
theorem kvs_one (k : K4) : ∀ u ∈ kvs k, u.oneCell' = true := by
  intro u hu
  unfold kvs at hu
  simp at hu
  rcases hu with rfl | rfl | rfl | rfl <;> rfl
abbrev HoldK := HoldG (α := K4) 48 4 kvs
theorem k4_info45 : (Try.prog.info? 48).map (fun i => (i.zero, i.size, i.bytes)) = some (some (.agg #[.int .u16 0, .int .u16 0, .int .u16 0, .int .u16 0]), 4, 8) := by kernel_rfl
/-- Each flow has at most so many times 2^40 bytes. -/
def Small (q : Nat) (L : List FW) : Prop := ∀ f ∈ L, 0 ≤ f.b ∧ f.b ≤ q * 1099511627776
theorem Small.nil (q : Nat) : Small q [] := fun f hf => absurd hf (by simp)
theorem Small.more {q : Nat} {L : List FW} (h : Small q L) : Small (q + 1) L := fun f hf => by have := h f hf; omega
theorem Small.le {q r : Nat} {L : List FW} (h : Small q L) (hr : q ≤ r) : Small r L := fun f hf => by
  have h1 := h f hf
  have : (q : Int) * 1099511627776 ≤ (r : Int) * 1099511627776 := by omega
  omega
theorem small_add {q : Nat} {L : List FW} (h : Small q L) (ht : Tab L) (hq : q ≤ 600) (k : K4) (n : Int) (hn : 0 ≤ n ∧ n ≤ 1099511627776) : Small (q + 1) (addR L k n).1 := by
  unfold addR
  cases hf : findF L k 0 with
  | some p =>
    obtain ⟨i, g⟩ := p
    obtain ⟨m, e1, e2, e3⟩ := findF_some L k 0 i g hf
    obtain rfl : i = m := by omega
    intro f hfm
    rcases List.mem_or_eq_of_mem_set hfm with h1 | rfl
    · exact h.more f h1
    · have hg := h g (List.mem_of_getElem? e2)
      have hw : IntKind.u64.wrap (g.b + n) = g.b + n := IntWalk.u64_in _ ⟨by omega, by omega⟩
      show 0 ≤ IntKind.u64.wrap (g.b + n) ∧ IntKind.u64.wrap (g.b + n) ≤ _
      rw [hw]; omega
  | none =>
    show Small (q + 1) ((if L.length = 256 then (L, 5) else (L ++ [(⟨k, 1, n⟩ : FW)], 0) : List FW × Int)).1
    by_cases h1 : L.length = 256
    · rw [if_pos h1]; exact h.more
    · rw [if_neg h1]
      intro f hfm
      rcases List.mem_append.1 hfm with h2 | h2
      · exact h.more f h2
      · simp at h2; subst h2; show 0 ≤ n ∧ n ≤ _; omega
def sumB : List FW → Int
  | [] => 0
  | f :: r => f.b + sumB r
def sumK (L : List FW) : List K4 → Int
  | [] => 0
  | k :: r => (getR L k).b + sumK L r
theorem getR_rng {q : Nat} {L : List FW} (h : Small q L) (k : K4) : 0 ≤ (getR L k).b ∧ (getR L k).b ≤ q * 1099511627776 := by
  unfold getR
  cases hf : findF L k 0 with
  | some p =>
    obtain ⟨i, g⟩ := p
    obtain ⟨m, e1, e2, e3⟩ := findF_some L k 0 i g hf
    exact h g (List.mem_of_getElem? e2)
  | none => show (0 : Int) ≤ 0 ∧ (0 : Int) ≤ _; omega
theorem sumK_app (L : List FW) : ∀ (Ks : List K4) (k : K4), sumK L (Ks ++ [k]) = sumK L Ks + (getR L k).b
  | [], k => by simp [sumK]
  | x :: r, k => by show _ + sumK L (r ++ [k]) = _ + sumK L r + _; rw [sumK_app L r k]; omega
theorem sumK_bound {L : List FW} (h : Small 600 L) : ∀ Ks : List K4, 0 ≤ sumK L Ks ∧ sumK L Ks ≤ Ks.length * 659706976665600
  | [] => by simp [sumK]
  | k :: r => by
    have h1 := getR_rng h k
    have h2 := sumK_bound h r
    show 0 ≤ _ + sumK L r ∧ _ + sumK L r ≤ _
    rw [List.length_cons]; omega
theorem sumK_rng {L : List FW} (h : Small 600 L) (Ks : List K4) (hl : Ks.length ≤ 100) : 0 ≤ sumK L Ks ∧ sumK L Ks ≤ 100 * 659706976665600 := by
  have := sumK_bound h Ks
  omega
theorem sumB_perm {S L : List FW} (h : S.Perm L) : sumB S = sumB L := by
  induction h with
  | nil => rfl
  | cons x _ ih => simp only [sumB, ih]
  | swap x y l => simp only [sumB]; omega
  | trans _ _ ih1 ih2 => exact ih1.trans ih2
theorem sumB_or (p r : FW → Bool) : ∀ (L : List FW), (∀ f ∈ L, ¬ (p f = true ∧ r f = true)) → sumB (L.filter fun f => p f || r f) = sumB (L.filter p) + sumB (L.filter r)
  | [], _ => rfl
  | f :: l, h => by
    have ih := sumB_or p r l (fun g hg => h g (List.mem_cons_of_mem _ hg))
    have hf := h f (List.mem_cons_self ..)
    simp only [List.filter_cons]
    cases hp : p f <;> cases hr : r f
    · simpa using ih
    · simp [sumB, ih]; omega
    · simp [sumB, ih]; omega
    · exact absurd ⟨hp, hr⟩ hf
theorem findF_shift : ∀ (L : List FW) (k : K4) (j : Nat), (findF L k j).map (·.2) = (findF L k 0).map (·.2)
  | [], _, _ => rfl
  | f :: r, k, j => by
    unfold findF
    by_cases e : k = f.k
    · rw [if_pos e, if_pos e]; rfl
    · rw [if_neg e, if_neg e, findF_shift r k (j + 1), findF_shift r k (0 + 1)]
theorem getB_none (L : List FW) (k : K4) (h : ∀ f ∈ L, f.k ≠ k) : L.filter (fun f => decide (f.k = k)) = [] := by
  rw [List.filter_eq_nil_iff]
  intro f hf
  simpa using h f hf
theorem getR_eq (L : List FW) (k : K4) : getR L k = ((findF L k 0).map (·.2)).getD ⟨k, 0, 0⟩ := by
  unfold getR
  cases findF L k 0 <;> rfl
theorem getB_one : ∀ (L : List FW) (k : K4), (L.map (·.k)).Nodup → sumB (L.filter fun f => decide (f.k = k)) = (getR L k).b
  | [], k, _ => rfl
  | f :: r, k, hn => by
    rw [List.map_cons, List.nodup_cons] at hn
    by_cases e : f.k = k
    · have h0 : r.filter (fun f => decide (f.k = k)) = [] := getB_none r k (fun g hg q => hn.1 (by rw [e, ← q]; exact List.mem_map.2 ⟨g, hg, rfl⟩))
      have h1 : getR (f :: r) k = f := by unfold getR findF; rw [if_pos e.symm]
      rw [h1, List.filter_cons, if_pos (by simpa using e), h0]
      simp [sumB]
    · have ih := getB_one r k hn.2
      have e1 : findF (f :: r) k 0 = findF r k (0 + 1) := by show (if k = f.k then _ else _) = _; rw [if_neg (fun q => e q.symm)]
      have h1 : getR (f :: r) k = getR r k := by rw [getR_eq, getR_eq, e1, findF_shift]
      rw [h1, List.filter_cons, if_neg (by simpa using e)]; exact ih
theorem sumK_filter (L : List FW) (hn : (L.map (·.k)).Nodup) : ∀ (Ks : List K4), Ks.Nodup → sumK L Ks = sumB (L.filter fun f => decide (f.k ∈ Ks))
  | [], _ => by
    have : L.filter (fun f => decide (f.k ∈ ([] : List K4))) = [] := by rw [List.filter_eq_nil_iff]; intro f _; simp
    rw [this]; rfl
  | k :: r, hk => by
    rw [List.nodup_cons] at hk
    have ih := sumK_filter L hn r hk.2
    show (getR L k).b + sumK L r = _
    rw [ih, ← getB_one L k hn, ← sumB_or]
    · congr 1
      refine List.filter_congr fun f _ => ?_
      simp [List.mem_cons]
    · rintro f _ ⟨h1, h2⟩
      simp at h1 h2
      exact hk.1 (by rw [← h1]; exact h2)
theorem count_one : ∀ (S : List FW) (k : K4), (S.map (·.k)).Nodup → S.countP (fun f => decide (f.k = k)) ≤ 1
  | [], _, _ => by simp
  | f :: r, k, hn => by
    rw [List.map_cons, List.nodup_cons] at hn
    rw [List.countP_cons]
    by_cases e : f.k = k
    · have h0 : r.countP (fun f => decide (f.k = k)) = 0 := by
        rw [List.countP_eq_zero]
        intro g hg
        simp
        intro q
        exact hn.1 (by rw [e, ← q]; exact List.mem_map.2 ⟨g, hg, rfl⟩)
      rw [h0]; split <;> omega
    · rw [if_neg (by simpa using e)]
      have := count_one r k hn.2; omega
theorem count_le (S : List FW) (hn : (S.map (·.k)).Nodup) : ∀ (Ks : List K4), S.countP (fun f => decide (f.k ∈ Ks)) ≤ Ks.length
  | [] => by simp
  | k :: r => by
    have ih := count_le S hn r
    have h1 := count_one S k hn
    have : S.countP (fun f => decide (f.k ∈ k :: r)) ≤ S.countP (fun f => decide (f.k = k)) + S.countP (fun f => decide (f.k ∈ r)) := by
      clear ih h1 hn
      induction S with
      | nil => simp
      | cons f l ih =>
        simp only [List.countP_cons, List.mem_cons] at ih ⊢
        by_cases h1 : f.k = k <;> by_cases h2 : f.k ∈ r <;> simp [h1, h2] at ih ⊢ <;> omega
    rw [List.length_cons]; omega
theorem sumB_nonneg : ∀ (S : List FW), (∀ f ∈ S, 0 ≤ f.b) → 0 ≤ sumB S
  | [], _ => by simp [sumB]
  | f :: r, h => by
    have h1 := h f (List.mem_cons_self ..)
    have h2 := sumB_nonneg r (fun g hg => h g (List.mem_cons_of_mem _ hg))
    show 0 ≤ f.b + sumB r; omega
theorem take_more : ∀ (S : List FW) (m : Nat) (x : Int), 0 ≤ x → (∀ f ∈ S, f.b ≤ x) → sumB (S.take (m + 1)) ≤ x + sumB (S.take m)
  | [], m, x, h0, _ => by simp [sumB]; omega
  | f :: r, 0, x, h0, h => by have := h f (List.mem_cons_self ..); simp [sumB]; omega
  | f :: r, m + 1, x, h0, h => by
    have ih := take_more r m x h0 (fun g hg => h g (List.mem_cons_of_mem _ hg))
    show f.b + sumB (r.take (m + 1)) ≤ x + (f.b + sumB (r.take m)); omega
theorem take_best (p : FW → Bool) : ∀ (S : List FW) (m : Nat), (∀ f ∈ S, 0 ≤ f.b) → S.Pairwise (fun f g => g.b ≤ f.b) → S.countP p ≤ m → sumB (S.filter p) ≤ sumB (S.take m)
  | [], m, _, _, _ => by simp [sumB]
  | f :: r, m, h0, hs, hc => by
    rw [List.pairwise_cons] at hs
    have hf := h0 f (List.mem_cons_self ..)
    have hr := fun g (hg : g ∈ r) => h0 g (List.mem_cons_of_mem _ hg)
    rw [List.countP_cons] at hc
    rw [List.filter_cons]
    by_cases hp : p f = true
    · rw [if_pos hp] at hc ⊢
      obtain ⟨m, rfl⟩ : ∃ k, m = k + 1 := ⟨m - 1, by omega⟩
      have := take_best p r m hr hs.2 (by omega)
      show f.b + sumB (r.filter p) ≤ f.b + sumB (r.take m); omega
    · rw [if_neg hp] at hc ⊢
      cases m with
      | zero =>
        have := take_best p r 0 hr hs.2 (by omega)
        simpa using this
      | succ m =>
        have h1 := take_best p r (m + 1) hr hs.2 (by omega)
        have h2 := take_more r m f.b hf (fun g hg => hs.1 g hg)
        show _ ≤ f.b + sumB (r.take m); omega
/-- HEAVY'S FLOWS HAVE TOGETHER NO FEWER BYTES THAN ANY OTHER N FLOWS. -/
theorem heavy_best {L S : List FW} {Ks : List K4} {m : Nat} (ht : Tab L) (h0 : Small 600 L) (hp : S.Perm L) (hs : ∀ (i j : Nat) (f g : FW), i < j → S[i]? = some f → S[j]? = some g → ¬ ltH g f) (hk : Ks.Nodup) (hm : (Ks.length ≤ L.length ∧ m = Ks.length) ∨ (L.length < Ks.length ∧ m = L.length)) : sumK L Ks ≤ sumB (S.take m) := by
  have hnS : (S.map (·.k)).Nodup := (hp.map (·.k)).nodup_iff.2 ht.nd
  rw [sumK_filter L ht.nd Ks hk, ← sumB_perm (hp.filter _)]
  refine take_best _ S m (fun f hf => (h0 f (hp.mem_iff.1 hf)).1) ?_ ?_
  · rw [List.pairwise_iff_getElem]
    intro i j hi hj hij
    have := hs i j S[i] S[j] hij (List.getElem?_eq_getElem hi) (List.getElem?_eq_getElem hj)
    unfold ltH at this; omega
  · have h1 := count_le S hnS Ks
    have h2 := S.countP_le_length (p := fun f => decide (f.k ∈ Ks))
    have h3 := hp.length_eq
    omega
theorem sumB_bound {S : List FW} (h : Small 600 S) : 0 ≤ sumB S ∧ sumB S ≤ S.length * 659706976665600 := by
  induction S with
  | nil => simp [sumB]
  | cons f r ih =>
    have h1 := h f (List.mem_cons_self ..)
    have h2 := ih (fun g hg => h g (List.mem_cons_of_mem _ hg))
    show 0 ≤ f.b + sumB r ∧ f.b + sumB r ≤ _
    rw [List.length_cons]; omega
theorem sumB_app : ∀ (A B : List FW), sumB (A ++ B) = sumB A + sumB B
  | [], B => by simp [sumB]
  | f :: r, B => by show f.b + sumB (r ++ B) = f.b + sumB r + sumB B; rw [sumB_app r B]; omega
theorem sumB_succ {S : List FW} {q : Nat} {f : FW} (h : S[q]? = some f) : sumB (S.take (q + 1)) = sumB (S.take q) + f.b := by
  obtain ⟨h1, h2⟩ := List.getElem?_eq_some_iff.1 h
  rw [List.take_succ_eq_append_getElem h1, sumB_app, h2]
  simp [sumB]
theorem FlowHeavy_long (a a1 : Option Addr) (len cap len1 cap1 : Nat) (w : World) (h : 600 < len) :
    Calls Try.prog 10 #[.slice a len cap, .slice a1 len1 cap1] w fun e w' => e = .returned (.bool true) ∧ Below w.heap.size w w' := by
  have d0 : decide (600 < (len : Int)) = true := decide_eq_true (by omega)
  have d0n : decide (600 < len) = true := decide_eq_true h
  go_enter Try.func10, Try.ntmps10
  go_wp2_with fail
  refine (names_true _).mono ?_
  rintro e w1 ⟨rfl, hb1⟩
  have g1 : Below w.heap.size w w1 := by refine Below.trans ?_ (hb1.mono ?_) <;> (repeat' (first | (with_reducible (first | exact Below.refl _ _ | assumption | refine below_drewN ?_ _ | refine Below.drew ?_ | refine Below.alloc ?_ ?_ _ | refine Below.setCell ?_ ?_ _)) | go_size))
  have hz1 := hb1.size
  (try simp at hz1)
  clear hb1
  go_wp2
  go_ret
  exact ⟨rfl, by (repeat' (first | (with_reducible (first | exact Below.refl _ _ | assumption | refine below_drewN ?_ _ | refine Below.drew ?_ | refine Below.alloc ?_ ?_ _ | refine Below.setCell ?_ ?_ _)) | go_size))⟩
theorem FlowHeavy_many (a a1 : Option Addr) (len cap len1 cap1 : Nat) (w : World) (h0 : len ≤ 600) (h : 100 < len1) :
    Calls Try.prog 10 #[.slice a len cap, .slice a1 len1 cap1] w fun e w' => e = .returned (.bool true) ∧ Below w.heap.size w w' := by
  have d0 : decide (600 < (len : Int)) = false := decide_eq_false (by omega)
  have d0n : decide (600 < len) = false := decide_eq_false (by omega)
  have d1 : decide (100 < (len1 : Int)) = true := decide_eq_true (by omega)
  have d1n : decide (100 < len1) = true := decide_eq_true h
  go_enter Try.func10, Try.ntmps10
  go_wp2_with fail
  refine (names_true _).mono ?_
  rintro e w1 ⟨rfl, hb1⟩
  have g1 : Below w.heap.size w w1 := by refine Below.trans ?_ (hb1.mono ?_) <;> (repeat' (first | (with_reducible (first | exact Below.refl _ _ | assumption | refine below_drewN ?_ _ | refine Below.drew ?_ | refine Below.alloc ?_ ?_ _ | refine Below.setCell ?_ ?_ _)) | go_size))
  have hz1 := hb1.size
  (try simp at hz1)
  clear hb1
  go_wp2
  go_ret
  exact ⟨rfl, by (repeat' (first | (with_reducible (first | exact Below.refl _ _ | assumption | refine below_drewN ?_ _ | refine Below.drew ?_ | refine Below.alloc ?_ ?_ _ | refine Below.setCell ?_ ?_ _)) | go_size))⟩
set_option maxRecDepth 100000 in
set_option maxHeartbeats 16000000 in
theorem FlowHeavy_main (a a1 : Option Addr) (b off cap cap1 : Nat) (E : List SN45) (P : List Int) (w : World) (ha : E ≠ [] → a = some ⟨b, off, none⟩) (hb0 : E ≠ [] → b < w.heap.size) (hE : AtG 5 snVs w b off E) (hEr : ∀ e ∈ E, -9223372036854775808 ≤ e.n ∧ e.n ≤ 9223372036854775807) (hP : RowI w a1 P.length P) (hlen : E.length ≤ 600) (hlen1 : P.length ≤ 100) :
    Calls Try.prog 10 #[.slice a E.length cap, .slice a1 P.length cap1] w fun e w' => e = .returned (.bool true) ∧ Below w.heap.size w w' := by
  have d0 : decide (600 < (E.length : Int)) = false := decide_eq_false (by omega)
  have d0n : decide (600 < E.length) = false := decide_eq_false (by omega)
  have d1 : decide (100 < (P.length : Int)) = false := decide_eq_false (by omega)
  have d1n : decide (100 < P.length) = false := decide_eq_false (by omega)
  have HP := hide hP; clear hP
  go_enter Try.func10, Try.ntmps10
  go_wp2_with fail
  refine (fNew2 _).mono ?_
  rintro e1 w1 ⟨M, T, rfl, hMge, hTM, M1, T1, hb1⟩
  have g1 : Below w.heap.size w w1 := Below.trans (by (repeat' (first | (with_reducible (first | exact Below.refl _ _ | assumption | refine below_drewN ?_ _ | refine Below.drew ?_ | refine Below.alloc ?_ ?_ _ | refine Below.setCell ?_ ?_ _)) | go_size))) (hb1.mono (by simp))
  have hMw : w.heap.size ≤ M := by simpa using hMge
  have hz1 := g1.size
  clear hMge
  go_wp2
  go_loopw [30] (fun i wr => ∃ (q : Nat) (L : List FW), q ≤ E.length ∧ i = .int .i64 q ∧ Tab L ∧ Small q L ∧ MapW wr M L ∧ Blk wr T #[.map (some M)] 132 ∧ Below w.heap.size w wr) (fun i _ => E.length - (intOf i).toNat)
  case atStart => exact ⟨0, [], Nat.zero_le _, rfl, Tab.nil, Small.nil _, M1, T1, g1⟩
  case round =>
    obtain ⟨q, L, hq, rfl, hTab, hSm, M0, T0, g0⟩ := hrel
    have hl0 := g0.size
    by_cases hlt : q < E.length
    · obtain ⟨s, hs⟩ : ∃ s, E[q]? = some s := ⟨_, List.getElem?_eq_getElem hlt⟩
      have hne : E ≠ [] := by intro e; rw [e] at hlt; simp at hlt
      have hbw := hb0 hne
      obtain rfl := ha hne
      have y0 : wr.cell? ⟨b, off + q * 5, none⟩ = some (.int .u16 s.k.a) := (hE.below g0 hbw) q s hs 0 _ rfl
      have y1 : wr.cell? ⟨b, off + q * 5 + 1, none⟩ = some (.int .u16 s.k.b) := (hE.below g0 hbw) q s hs 1 _ rfl
      have y2 : wr.cell? ⟨b, off + q * 5 + 2, none⟩ = some (.int .u16 s.k.c) := (hE.below g0 hbw) q s hs 2 _ rfl
      have y3 : wr.cell? ⟨b, off + q * 5 + 3, none⟩ = some (.int .u16 s.k.d) := (hE.below g0 hbw) q s hs 3 _ rfl
      have y4 : wr.cell? ⟨b, off + q * 5 + 4, none⟩ = some (.int .i64 s.n) := (hE.below g0 hbw) q s hs 4 _ rfl
      have hqi : (q : Int) < (E.length : Int) := by omega
      have hqb : (q : Int) ≤ 600 := by omega
      have hsr := hEr s (List.mem_of_getElem? hs)
      go_upto_region 7 with (fail)
      clear y0 y1 y2 y3 y4
      refine wp_forget (fun v => Below wr.heap.size wr v ∧ Blk v wr.heap.size #[.int .u16 s.k.a, .int .u16 s.k.b, .int .u16 s.k.c, .int .u16 s.k.d, .int .i64 s.n] 80) ⟨by (repeat' (first | (with_reducible (first | exact Below.refl _ _ | assumption | refine below_drewN ?_ _ | refine Below.drew ?_ | refine Below.alloc ?_ ?_ _ | refine Below.setCell ?_ ?_ _)) | go_size)), by (repeat' (first | (with_reducible (first | assumption | exact Blk.alloc_new _ _ _ (by first | rfl | (simp; done) | omega) | apply Blk.drewN | apply Blk.drew | apply Blk.alloc_old | apply Blk.set_same | apply Blk.set_other)) | (show (_ : Nat) ≠ _; first | omega | (simp; done) | (simp; omega)) | ((simp only [List.setIfInBounds_toArray, List.set_cons_succ, List.set_cons_zero]); (with_reducible exact rfl)) | (with_reducible exact rfl) | (show (_ : Array Value) = _; exact rfl)))⟩ ?_
      rintro v1 ⟨hv1, X1⟩
      have M1 := M0.below0 hv1
      have T1 := T0.below hv1 T0.size
      have gv1 : Below w.heap.size w v1 := g0.trans (hv1.mono g0.size)
      have hzv := gv1.size
      have cX := X1.cell; have fX := X1.frozen; have zX := X1.size
      by_cases hbig : 1099511627776 < s.n
      · have db : decide (1099511627776 < s.n) = true := decide_eq_true hbig
        clear hbig
        go_wp2_with fail
        refine (names_true _).mono ?_
        rintro e w2 ⟨rfl, hb2⟩
        have g2 : Below w.heap.size w w2 := by refine Below.trans ?_ (hb2.mono ?_) <;> (repeat' (first | (with_reducible (first | exact Below.refl _ _ | assumption | refine below_drewN ?_ _ | refine Below.drew ?_ | refine Below.alloc ?_ ?_ _ | refine Below.setCell ?_ ?_ _)) | go_size))
        have hz2 := hb2.size
        (try simp at hz2)
        clear hb2
        go_wp2
        go_ret
        exact ⟨rfl, by (repeat' (first | (with_reducible (first | exact Below.refl _ _ | assumption | refine below_drewN ?_ _ | refine Below.drew ?_ | refine Below.alloc ?_ ?_ _ | refine Below.setCell ?_ ?_ _)) | go_size))⟩
      have db : decide (1099511627776 < s.n) = false := decide_eq_false hbig
      by_cases hneg : s.n < 0
      · have KA := hide (fAddNeg T M L s.k s.n v1 T1 M1 hTM hneg)
        clear hneg hbig
        go_wp2_with fail
        refine KA.out.mono ?_
        rintro e2 w2 ⟨rfl, M2, ho2, hb2⟩
        have T2 := T1.kept2 M1 ho2
        have g2 : Below w.heap.size w w2 := gv1.trans (hb2.mono hMw)
        go_wp2
        go_roundw
        case rel => exact ⟨q + 1, L, by omega, by go_num, hTab, hSm.more, M2, T2, g2⟩
        case measure => simp [intOf]; omega
      · have KA := hide (fAddAny T M L s.k s.n v1 T1 M1 hTM (by omega))
        have htab2 := addR_tab hTab s.k s.n
        have hsm2 := small_add hSm hTab (by omega) s.k s.n (by omega)
        obtain ⟨L2, er, hadd⟩ : ∃ L2 er, addR L s.k s.n = (L2, er) := ⟨_, _, rfl⟩
        rw [hadd] at KA htab2 hsm2
        clear hneg hadd hbig
        go_wp2_with fail
        refine KA.out.mono ?_
        rintro e2 w2 ⟨rfl, M2, ho2, hb2⟩
        have T2 := T1.kept2 M1 ho2
        have g2 : Below w.heap.size w w2 := gv1.trans (hb2.mono hMw)
        go_wp2
        go_roundw
        case rel => exact ⟨q + 1, L2, by omega, by go_num, htab2, hsm2, M2, T2, g2⟩
        case measure => simp [intOf]; omega
    · obtain rfl : q = E.length := by omega
      clear hlt hq
      obtain ⟨w3, rfl⟩ : ∃ W, W = wr := ⟨_, rfl⟩
      have cT := T0.cell; have zT := T0.size
      have hL3 : L.length ≤ 300 := by have := hTab.len; omega
      have hsm : Small 600 L := hSm.le hlen
      have hS0 : sumK L [] = 0 := rfl
      clear hSm
      go_wp2
      go_loopw [8, 9, 47] (fun v sm i wr => ∃ (p : Nat) (Ks : List K4), p ≤ P.length ∧ i = .int .i64 p ∧ Ks.Nodup ∧ Ks.length ≤ p ∧ sm = .int .u64 (sumK L Ks) ∧ HoldK wr w3.heap.size v Ks ∧ Below w3.heap.size w3 wr) (fun _ _ i _ => P.length - (intOf i).toNat)
      case atStart => exact ⟨0, [], Nat.zero_le _, rfl, List.nodup_nil, by simp, by rw [hS0], HoldG.nil _ _, by (repeat' (first | (with_reducible (first | exact Below.refl _ _ | assumption | refine below_drewN ?_ _ | refine Below.drew ?_ | refine Below.alloc ?_ ?_ _ | refine Below.setCell ?_ ?_ _)) | go_size))⟩
      case round =>
        obtain ⟨p, Ks, hp, rfl, hnd, hKl, rfl, HK, h5⟩ := hrel
        obtain ⟨W1, rfl⟩ : ∃ W, W = wr := ⟨_, rfl⟩
        have g5 : Below w.heap.size w W1 := g0.trans (h5.mono g0.size)
        have hl5 := g5.size
        obtain ⟨sk, hsk⟩ : ∃ x, sumK L Ks = x := ⟨_, rfl⟩
        have hskr : 0 ≤ sk ∧ sk ≤ 100 * 659706976665600 := by rw [← hsk]; exact sumK_rng hsm Ks (by omega)
        have HSk := hide hsk
        rw [hsk]
        clear hsk
        by_cases hlp : p < P.length
        · obtain ⟨z, hz⟩ : ∃ z, P.getD p 0 = z := ⟨_, rfl⟩
          have hPp := (HP.out.below (by (repeat' (first | (with_reducible (first | exact Below.refl _ _ | assumption | refine below_drewN ?_ _ | refine Below.drew ?_ | refine Below.alloc ?_ ?_ _ | refine Below.setCell ?_ ?_ _)) | go_size))) : RowI W1 a1 P.length P)
          rcases hPp.2 with h | ⟨b1, off1, rfl, hB1, hcP⟩
          · omega
          have cP := hcP p hlp
          rw [hz] at cP
          have hpi : (p : Int) < (P.length : Int) := by omega
          have hpb : (p : Int) ≤ 100 := by omega
          clear hPp hcP hz
          by_cases hz0 : z < 0
          · have dz : decide (z < 0) = true := decide_eq_true hz0
            clear hz0
            go_wp2
            go_roundw
            case rel => exact ⟨p + 1, Ks, by omega, by go_num, hnd, by omega, by rw [HSk.out], HK.below (by (repeat' (first | (with_reducible (first | exact Below.refl _ _ | assumption | refine below_drewN ?_ _ | refine Below.drew ?_ | refine Below.alloc ?_ ?_ _ | refine Below.setCell ?_ ?_ _)) | go_size))), by (repeat' (first | (with_reducible (first | exact Below.refl _ _ | assumption | refine below_drewN ?_ _ | refine Below.drew ?_ | refine Below.alloc ?_ ?_ _ | refine Below.setCell ?_ ?_ _)) | go_size))⟩
            case measure => simp [intOf]; omega
          have dz : decide (z < 0) = false := decide_eq_false hz0
          by_cases hz1 : (E.length : Int) ≤ z
          · have dy : decide ((E.length : Int) ≤ z) = true := decide_eq_true hz1
            clear hz0 hz1
            go_wp2
            go_roundw
            case rel => exact ⟨p + 1, Ks, by omega, by go_num, hnd, by omega, by rw [HSk.out], HK.below (by (repeat' (first | (with_reducible (first | exact Below.refl _ _ | assumption | refine below_drewN ?_ _ | refine Below.drew ?_ | refine Below.alloc ?_ ?_ _ | refine Below.setCell ?_ ?_ _)) | go_size))), by (repeat' (first | (with_reducible (first | exact Below.refl _ _ | assumption | refine below_drewN ?_ _ | refine Below.drew ?_ | refine Below.alloc ?_ ?_ _ | refine Below.setCell ?_ ?_ _)) | go_size))⟩
            case measure => simp [intOf]; omega
          have dy : decide ((E.length : Int) ≤ z) = false := decide_eq_false hz1
          obtain ⟨i, rfl⟩ : ∃ i : Nat, z = (i : Int) := ⟨z.toNat, by omega⟩
          have hil : i < E.length := by omega
          have hii : (i : Int) < (E.length : Int) := by omega
          obtain ⟨s, hs⟩ : ∃ s, E[i]? = some s := ⟨_, List.getElem?_eq_getElem hil⟩
          have hne : E ≠ [] := by intro e; rw [e] at hil; simp at hil
          have hbw := hb0 hne
          obtain rfl := ha hne
          obtain ⟨ak, ck, gk, rfl, hck, hak, hgk, atk⟩ := HoldG.at HK kvs_len
          clear hz0 hz1
          go_wp2
          go_loopw [12, 61] (fun th j wr => ∃ (t : Nat) (tb : Bool), t ≤ Ks.length ∧ j = .int .i64 t ∧ th = .bool tb ∧ Hid (decide (s.k ∈ Ks.take t) = tb) ∧ Below W1.heap.size W1 wr) (fun _ j _ => Ks.length - (intOf j).toNat)
          case atStart => exact ⟨0, false, Nat.zero_le _, rfl, rfl, hide (by simp), by (repeat' (first | (with_reducible (first | exact Below.refl _ _ | assumption | refine below_drewN ?_ _ | refine Below.drew ?_ | refine Below.alloc ?_ ?_ _ | refine Below.setCell ?_ ?_ _)) | go_size))⟩
          case round =>
            obtain ⟨t, tb, ht, rfl, rfl, htb, hw1⟩ := hrel
            have gw1 : Below w.heap.size w wr := g5.trans (hw1.mono g5.size)
            have hlw := gw1.size
            clear cP
            by_cases htl : t < Ks.length
            · obtain ⟨kj, hkj⟩ : ∃ x, Ks[t]? = some x := ⟨_, List.getElem?_eq_getElem htl⟩
              have hkne : Ks ≠ [] := by intro e; rw [e] at htl; simp at htl
              have hgk' := hgk hkne
              obtain rfl := hak hkne
              have y0 : wr.cell? ⟨gk, 0 + t * 4 + 0, none⟩ = some (.int .u16 kj.a) := (atk.below hw1 hgk') t kj hkj 0 _ rfl; simp only [Nat.zero_add, Nat.add_zero] at y0
              have y1 : wr.cell? ⟨gk, 0 + t * 4 + 1, none⟩ = some (.int .u16 kj.b) := (atk.below hw1 hgk') t kj hkj 1 _ rfl; simp only [Nat.zero_add, Nat.add_zero] at y1
              have y2 : wr.cell? ⟨gk, 0 + t * 4 + 2, none⟩ = some (.int .u16 kj.c) := (atk.below hw1 hgk') t kj hkj 2 _ rfl; simp only [Nat.zero_add, Nat.add_zero] at y2
              have y3 : wr.cell? ⟨gk, 0 + t * 4 + 3, none⟩ = some (.int .u16 kj.d) := (atk.below hw1 hgk') t kj hkj 3 _ rfl; simp only [Nat.zero_add, Nat.add_zero] at y3
              have hti : (t : Int) < (Ks.length : Int) := by omega
              have htbd : (t : Int) ≤ 100 := by omega
              have htk : Ks.take (t + 1) = Ks.take t ++ [kj] := by
                obtain ⟨h1, h2⟩ := List.getElem?_eq_some_iff.1 hkj
                rw [List.take_succ_eq_append_getElem h1, h2]
              go_upto_region 21 with (fail)
              clear y0 y1 y2 y3
              refine wp_forget (fun v => Below wr.heap.size wr v ∧ Blk v wr.heap.size #[.int .u16 kj.a, .int .u16 kj.b, .int .u16 kj.c, .int .u16 kj.d] 48) ⟨by (repeat' (first | (with_reducible (first | exact Below.refl _ _ | assumption | refine below_drewN ?_ _ | refine Below.drew ?_ | refine Below.alloc ?_ ?_ _ | refine Below.setCell ?_ ?_ _)) | go_size)), by (repeat' (first | (with_reducible (first | assumption | exact Blk.alloc_new _ _ _ (by first | rfl | (simp; done) | omega) | apply Blk.drewN | apply Blk.drew | apply Blk.alloc_old | apply Blk.set_same | apply Blk.set_other)) | (show (_ : Nat) ≠ _; first | omega | (simp; done) | (simp; omega)) | ((simp only [List.setIfInBounds_toArray, List.set_cons_succ, List.set_cons_zero]); (with_reducible exact rfl)) | (with_reducible exact rfl) | (show (_ : Array Value) = _; exact rfl)))⟩ ?_
              rintro v1 ⟨hv1, X1⟩
              have hz1 : Below W1.heap.size W1 v1 := hw1.trans (hv1.mono hw1.size)
              have gz1 : Below w.heap.size w v1 := gw1.trans (hv1.mono gw1.size)
              cases tb with
              | true =>
                have hnx : Hid (decide (s.k ∈ Ks.take (t + 1)) = true) := hide (by have := htb.out; rw [htk]; simp at this ⊢; exact .inl this)
                clear htb htk
                have qX := blk_calm X1
                refine wp_region_quiet_below (by kernel_rfl) (by kernel_rfl) ?_
                repeat (go_big_quiet_step (fail))
                refine wpQuiet_nil ?_
                intro _ hw'
                obtain ⟨pq, hw''⟩ := hw'
                subst hw''
                have hb2 := below_regrown v1 pq.d pq.os
                clear qX
                generalize Sort.grow (redrawn v1 pq.d) pq.os = w2 at *
                have hv2 : Below W1.heap.size W1 w2 := hz1.trans (hb2.mono hz1.size)
                go_wp2
                go_roundw
                case rel => exact ⟨t + 1, true, by omega, by go_num, rfl, hnx, hv2⟩
                case measure => simp [intOf]; omega
              | false =>
                by_cases hke : kj = s.k
                · have hnx : Hid (decide (s.k ∈ Ks.take (t + 1)) = true) := hide (by rw [htk]; simp [hke])
                  have q1 : ∀ v, (binOp .eql 48 (kv kj) (kv s.k)).run Try.prog v = .ok (.bool true) v := by rw [hke]; exact keq s.k
                  clear htb htk hke
                  have qX := blk_calm X1
                  have qe0 : ∀ d os, (grow (redrawn v1 d) os).cell? ⟨b, off + i * 5, none⟩ = some (.int .u16 s.k.a) := fun d os => (hE.below (gz1.trans ((below_regrown v1 d os).mono gz1.size)) hbw) i s hs 0 _ rfl
                  have qe1 : ∀ d os, (grow (redrawn v1 d) os).cell? ⟨b, off + i * 5 + 1, none⟩ = some (.int .u16 s.k.b) := fun d os => (hE.below (gz1.trans ((below_regrown v1 d os).mono gz1.size)) hbw) i s hs 1 _ rfl
                  have qe2 : ∀ d os, (grow (redrawn v1 d) os).cell? ⟨b, off + i * 5 + 2, none⟩ = some (.int .u16 s.k.c) := fun d os => (hE.below (gz1.trans ((below_regrown v1 d os).mono gz1.size)) hbw) i s hs 2 _ rfl
                  have qe3 : ∀ d os, (grow (redrawn v1 d) os).cell? ⟨b, off + i * 5 + 3, none⟩ = some (.int .u16 s.k.d) := fun d os => (hE.below (gz1.trans ((below_regrown v1 d os).mono gz1.size)) hbw) i s hs 3 _ rfl
                  refine wp_region_quiet_below (by kernel_rfl) (by kernel_rfl) ?_
                  repeat (go_big_quiet_step (fail))
                  refine wpQuiet_nil ?_
                  intro _ hw'
                  obtain ⟨pq, hw''⟩ := hw'
                  subst hw''
                  have hb2 := below_regrown v1 pq.d pq.os
                  clear qX qe0 qe1 qe2 qe3
                  generalize Sort.grow (redrawn v1 pq.d) pq.os = w2 at *
                  have hv2 : Below W1.heap.size W1 w2 := hz1.trans (hb2.mono hz1.size)
                  go_wp2
                  go_roundw
                  case rel => exact ⟨t + 1, true, by omega, by go_num, rfl, hnx, hv2⟩
                  case measure => simp [intOf]; omega
                · have hnx : Hid (decide (s.k ∈ Ks.take (t + 1)) = false) := hide (by have := htb.out; rw [htk]; simp at this ⊢; exact ⟨this, fun e => hke e.symm⟩)
                  have q1 : ∀ v, (binOp .eql 48 (kv kj) (kv s.k)).run Try.prog v = .ok (.bool false) v := kneq3 hke
                  clear htb htk hke
                  have qX := blk_calm X1
                  have qe0 : ∀ d os, (grow (redrawn v1 d) os).cell? ⟨b, off + i * 5, none⟩ = some (.int .u16 s.k.a) := fun d os => (hE.below (gz1.trans ((below_regrown v1 d os).mono gz1.size)) hbw) i s hs 0 _ rfl
                  have qe1 : ∀ d os, (grow (redrawn v1 d) os).cell? ⟨b, off + i * 5 + 1, none⟩ = some (.int .u16 s.k.b) := fun d os => (hE.below (gz1.trans ((below_regrown v1 d os).mono gz1.size)) hbw) i s hs 1 _ rfl
                  have qe2 : ∀ d os, (grow (redrawn v1 d) os).cell? ⟨b, off + i * 5 + 2, none⟩ = some (.int .u16 s.k.c) := fun d os => (hE.below (gz1.trans ((below_regrown v1 d os).mono gz1.size)) hbw) i s hs 2 _ rfl
                  have qe3 : ∀ d os, (grow (redrawn v1 d) os).cell? ⟨b, off + i * 5 + 3, none⟩ = some (.int .u16 s.k.d) := fun d os => (hE.below (gz1.trans ((below_regrown v1 d os).mono gz1.size)) hbw) i s hs 3 _ rfl
                  refine wp_region_quiet_below (by kernel_rfl) (by kernel_rfl) ?_
                  repeat (go_big_quiet_step (fail))
                  refine wpQuiet_nil ?_
                  intro _ hw'
                  obtain ⟨pq, hw''⟩ := hw'
                  subst hw''
                  have hb2 := below_regrown v1 pq.d pq.os
                  clear qX qe0 qe1 qe2 qe3
                  generalize Sort.grow (redrawn v1 pq.d) pq.os = w2 at *
                  have hv2 : Below W1.heap.size W1 w2 := hz1.trans (hb2.mono hz1.size)
                  go_wp2
                  go_roundw
                  case rel => exact ⟨t + 1, false, by omega, by go_num, rfl, hnx, hv2⟩
                  case measure => simp [intOf]; omega
            · obtain rfl : t = Ks.length := by omega
              have hto := htb.out
              rw [List.take_length] at hto
              have h6 : Below w3.heap.size w3 wr := h5.trans (hw1.mono h5.size)
              have HK2 := HK.below hw1
              clear htb htl ht
              cases tb with
              | true =>
                clear hto
                go_wp2
                go_roundw
                case rel => exact ⟨p + 1, Ks, by omega, by go_num, hnd, by omega, by rw [HSk.out], HK2.below (by (repeat' (first | (with_reducible (first | exact Below.refl _ _ | assumption | refine below_drewN ?_ _ | refine Below.drew ?_ | refine Below.alloc ?_ ?_ _ | refine Below.setCell ?_ ?_ _)) | go_size))), by (repeat' (first | (with_reducible (first | exact Below.refl _ _ | assumption | refine below_drewN ?_ _ | refine Below.drew ?_ | refine Below.alloc ?_ ?_ _ | refine Below.setCell ?_ ?_ _)) | go_size))⟩
                case measure => simp [intOf]; omega
              | false =>
                have hnk : s.k ∉ Ks := by simpa using hto
                have hnd2 : (Ks ++ [s.k]).Nodup := List.nodup_append.2 ⟨hnd, by simp, fun x hx y hy => by simp at hy; subst hy; intro e; subst e; exact hnk hx⟩
                have hgr := getR_rng hsm s.k
                obtain ⟨gf, hgf⟩ : ∃ gf, getR L s.k = gf := ⟨_, rfl⟩
                have hsum : sumK L (Ks ++ [s.k]) = sk + gf.b := by rw [sumK_app, HSk.out, hgf]
                rw [hgf] at hgr
                have hwr : IntKind.u64.wrap (sk + gf.b) = sk + gf.b := IntWalk.u64_in _ ⟨by omega, by omega⟩
                have HSum := hide hsum
                have KG := hide (fun (v : World) (hv : Below w3.heap.size w3 v) => by have h := fGetAny T M L s.k v (T0.below hv T0.size) (M0.below0 hv); rw [hgf] at h; exact h)
                have hfld : ∀ v, (Instr.field 88 (.agg #[.int .u16 gf.k.a, .int .u16 gf.k.b, .int .u16 gf.k.c, .int .u16 gf.k.d, .int .u64 gf.p, .int .u64 gf.b]) 2).run Try.prog v = .ok (.int .u64 gf.b) v := fun _ => by kernel_rfl
                have y0 : wr.cell? ⟨b, off + i * 5, none⟩ = some (.int .u16 s.k.a) := (hE.below gw1 hbw) i s hs 0 _ rfl
                have y1 : wr.cell? ⟨b, off + i * 5 + 1, none⟩ = some (.int .u16 s.k.b) := (hE.below gw1 hbw) i s hs 1 _ rfl
                have y2 : wr.cell? ⟨b, off + i * 5 + 2, none⟩ = some (.int .u16 s.k.c) := (hE.below gw1 hbw) i s hs 2 _ rfl
                have y3 : wr.cell? ⟨b, off + i * 5 + 3, none⟩ = some (.int .u16 s.k.d) := (hE.below gw1 hbw) i s hs 3 _ rfl
                have y4 : wr.cell? ⟨b, off + i * 5 + 4, none⟩ = some (.int .i64 s.n) := (hE.below gw1 hbw) i s hs 4 _ rfl
                clear hto hsum hgf hnk
                go_wp2_with (refine wpList_append_g Try.underlying96 k4_info45 rfl kvs_len kvs_one (by decide) (by decide) rfl (.tmp 78) (.tmp 84) rfl w3.heap.size (.slice ak Ks.length ck) Ks s.k (wr.heap.size) #[.int .u16 s.k.a, .int .u16 s.k.b, .int .u16 s.k.c, .int .u16 s.k.d] rfl (by rfl) (by rfl) (HK2.below (by (repeat' (first | (with_reducible (first | exact Below.refl _ _ | assumption | refine below_drewN ?_ _ | refine Below.drew ?_ | refine Below.alloc ?_ ?_ _ | refine Below.setCell ?_ ?_ _)) | go_size)))) (by (repeat' (first | (with_reducible (first | assumption | exact Blk.alloc_new _ _ _ (by first | rfl | (simp; done) | omega) | apply Blk.drewN | apply Blk.drew | apply Blk.alloc_old | apply Blk.set_same | apply Blk.set_other)) | (show (_ : Nat) ≠ _; first | omega | (simp; done) | (simp; omega)) | ((simp only [List.setIfInBounds_toArray, List.set_cons_succ, List.set_cons_zero]); (with_reducible exact rfl)) | (with_reducible exact rfl) | (show (_ : Array Value) = _; exact rfl)))) (by omega) (by simp; have := h6.size; omega) ?_; intro v2 w2 HK3 hbk hs2 hk2; have h7 : Below w3.heap.size w3 w2 := Below.trans (Below.trans h6 (Below.mono (show Below wr.heap.size wr _ from (by (repeat' (first | (with_reducible (first | exact Below.refl _ _ | assumption | refine below_drewN ?_ _ | refine Below.drew ?_ | refine Below.alloc ?_ ?_ _ | refine Below.setCell ?_ ?_ _)) | go_size)))) h6.size)) hbk; have g7 : Below w.heap.size w w2 := g0.trans (h7.mono g0.size); have hz7 := g7.size; clear y0 y1 y2 y3 y4; have y0 : w2.cell? ⟨b, off + i * 5, none⟩ = some (.int .u16 s.k.a) := (hE.below g7 hbw) i s hs 0 _ rfl; have y1 : w2.cell? ⟨b, off + i * 5 + 1, none⟩ = some (.int .u16 s.k.b) := (hE.below g7 hbw) i s hs 1 _ rfl; have y2 : w2.cell? ⟨b, off + i * 5 + 2, none⟩ = some (.int .u16 s.k.c) := (hE.below g7 hbw) i s hs 2 _ rfl; have y3 : w2.cell? ⟨b, off + i * 5 + 3, none⟩ = some (.int .u16 s.k.d) := (hE.below g7 hbw) i s hs 3 _ rfl; have y4 : w2.cell? ⟨b, off + i * 5 + 4, none⟩ = some (.int .i64 s.n) := (hE.below g7 hbw) i s hs 4 _ rfl)
                go_wp2_with fail
                refine (KG.out _ h7).mono ?_
                rintro e8 w8 ⟨rfl, hb8⟩
                have h8 : Below w3.heap.size w3 w8 := h7.trans (hb8.mono h7.size)
                go_wp2
                go_roundw
                case rel => exact ⟨p + 1, Ks ++ [s.k], by omega, by go_num, hnd2, by simp; omega, by rw [HSum.out], HK3.below hb8, h8⟩
                case measure => simp [intOf]; omega
        · obtain rfl : p = P.length := by omega
          obtain ⟨ak, ck, gk, rfl, hck, hak, hgk, atk⟩ := HoldG.at HK kvs_len
          have T5 := T0.below h5 T0.size
          have M5 := M0.below0 h5
          have KH := hide (flHeavy T M L (Ks.length : Int) W1 T5 M5 hL3 (by omega))
          clear hlp hp
          go_wp2_with fail
          refine KH.out.mono ?_
          rintro e4 w4 ⟨S, ah, g, ch, m, rfl, hm, hperm, hsort, hmc, hca, hcg, hat, hb4⟩
          have g4 : Below w.heap.size w w4 := g5.trans (hb4.mono g5.size)
          have hz4 := g4.size
          have hSl : S.length = L.length := hperm.length_eq
          have hmS : m ≤ S.length := by omega
          have hbest : sk ≤ sumB (S.take m) := by rw [← HSk.out]; exact heavy_best hTab hsm hperm hsort hnd (by omega)
          have hSsm : Small 600 S := fun f hf => hsm f (hperm.mem_iff.1 hf)
          have HB := hide hbest; have HSS := hide hSsm
          have HLS := hide (show S ≠ [] → L ≠ [] from fun h e => h (by rw [e] at hSl; exact List.length_eq_zero_iff.1 hSl))
          have hm3 : m ≤ 300 := by omega
          clear hm hperm hsort hbest hSsm KH hSl
          go_wp2
          go_loopw [15, 102] (fun sm i wr => ∃ q : Nat, q ≤ m ∧ i = .int .i64 q ∧ sm = .int .u64 (sumB (S.take q)) ∧ Below w4.heap.size w4 wr) (fun _ i _ => m - (intOf i).toNat)
          case atStart => exact ⟨0, Nat.zero_le _, rfl, rfl, by (repeat' (first | (with_reducible (first | exact Below.refl _ _ | assumption | refine below_drewN ?_ _ | refine Below.drew ?_ | refine Below.alloc ?_ ?_ _ | refine Below.setCell ?_ ?_ _)) | go_size))⟩
          case round =>
            obtain ⟨q, hqm, rfl, rfl, h6⟩ := hrel
            have g6 : Below w.heap.size w wr := g4.trans (h6.mono g4.size)
            have hl6 := g6.size
            have hl64 := h6.size
            by_cases hlt : q < m
            · obtain ⟨f, hf⟩ : ∃ f, S[q]? = some f := ⟨_, List.getElem?_eq_getElem (by omega)⟩
              have hSne : S ≠ [] := by intro e; rw [e] at hf; simp at hf
              have hLne := HLS.out hSne
              obtain rfl := hca hLne
              have hgg := hcg hLne
              have y0 : wr.cell? ⟨g, 0 + q * 6 + 0, none⟩ = some (.int .u16 f.k.a) := (hat.below h6 hgg) q f hf 0 _ rfl; simp only [Nat.zero_add, Nat.add_zero] at y0
              have y1 : wr.cell? ⟨g, 0 + q * 6 + 1, none⟩ = some (.int .u16 f.k.b) := (hat.below h6 hgg) q f hf 1 _ rfl; simp only [Nat.zero_add, Nat.add_zero] at y1
              have y2 : wr.cell? ⟨g, 0 + q * 6 + 2, none⟩ = some (.int .u16 f.k.c) := (hat.below h6 hgg) q f hf 2 _ rfl; simp only [Nat.zero_add, Nat.add_zero] at y2
              have y3 : wr.cell? ⟨g, 0 + q * 6 + 3, none⟩ = some (.int .u16 f.k.d) := (hat.below h6 hgg) q f hf 3 _ rfl; simp only [Nat.zero_add, Nat.add_zero] at y3
              have y4 : wr.cell? ⟨g, 0 + q * 6 + 4, none⟩ = some (.int .u64 f.p) := (hat.below h6 hgg) q f hf 4 _ rfl; simp only [Nat.zero_add, Nat.add_zero] at y4
              have y5 : wr.cell? ⟨g, 0 + q * 6 + 5, none⟩ = some (.int .u64 f.b) := (hat.below h6 hgg) q f hf 5 _ rfl; simp only [Nat.zero_add, Nat.add_zero] at y5
              have hqi : (q : Int) < (m : Int) := by omega
              have hqb : (q : Int) ≤ 300 := by omega
              have hsu := sumB_succ hf
              obtain ⟨sb, hsb⟩ : ∃ x, sumB (S.take q) = x := ⟨_, rfl⟩
              have hsbr : 0 ≤ sb ∧ sb ≤ 300 * 659706976665600 := by
                have h1 := sumB_bound (S := S.take q) (fun g hg => HSS.out g (List.mem_of_mem_take hg))
                rw [hsb] at h1
                have h2 : (S.take q).length ≤ 300 := by rw [List.length_take]; omega
                omega
              have hfr := HSS.out f (List.mem_of_getElem? hf)
              rw [hsb] at hsu
              have HU := hide hsu
              have hwr : IntKind.u64.wrap (sb + f.b) = sb + f.b := IntWalk.u64_in _ ⟨by omega, by omega⟩
              rw [hsb]
              clear hsu hsb
              go_wp2
              go_roundw
              case rel => exact ⟨q + 1, by omega, by go_num, by rw [HU.out], by (repeat' (first | (with_reducible (first | exact Below.refl _ _ | assumption | refine below_drewN ?_ _ | refine Below.drew ?_ | refine Below.alloc ?_ ?_ _ | refine Below.setCell ?_ ?_ _)) | go_size))⟩
              case measure => simp [intOf]; omega
            · obtain rfl : q = m := by omega
              obtain ⟨sb, hsb⟩ : ∃ x, sumB (S.take q) = x := ⟨_, rfl⟩
              have hle := HB.out
              rw [hsb] at hle
              rw [hsb]
              have dl : decide (sk ≤ sb) = true := decide_eq_true hle
              clear hlt hsb hle
              go_wp2_with fail
              refine (names_true _).mono ?_
              rintro e w9 ⟨rfl, hb9⟩
              have g9 : Below w.heap.size w w9 := by refine Below.trans ?_ (hb9.mono ?_) <;> (repeat' (first | (with_reducible (first | exact Below.refl _ _ | assumption | refine below_drewN ?_ _ | refine Below.drew ?_ | refine Below.alloc ?_ ?_ _ | refine Below.setCell ?_ ?_ _)) | go_size))
              have hz9 := hb9.size
              (try simp at hz9)
              clear hb9
              go_wp2
              go_ret
              exact ⟨rfl, by (repeat' (first | (with_reducible (first | exact Below.refl _ _ | assumption | refine below_drewN ?_ _ | refine Below.drew ?_ | refine Below.alloc ?_ ?_ _ | refine Below.setCell ?_ ?_ _)) | go_size))⟩
end Go.Proofs.Ytljpiofpfankoaa
