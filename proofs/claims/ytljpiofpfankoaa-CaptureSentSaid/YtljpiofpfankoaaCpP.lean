/-
  Captures: decode of encode, and encode of decode, in plain lists. Conditions: none.
-/
import Derived.Test.YtljpiofpfankoaaCpH
namespace Go.Proofs.Ytljpiofpfankoaa
open Go.RowKit Go.Sort
set_option linter.unusedVariables false
set_option linter.unusedSimpArgs false
theorem blr_app : ∀ (n : Nat) (v : Int) (l : List Int), blr n v l = blr n v [] ++ l
  | 0, _, _ => by simp [blr]
  | n + 1, v, l => by unfold blr; rw [blr_app n (v / 256) (v % 256 :: l), blr_app n (v / 256) [v % 256], List.append_assoc]; rfl
theorem blr_succ (n : Nat) (v : Int) : blr (n + 1) v [] = blr n (v / 256) [] ++ [v % 256] := by
  show blr n (v / 256) [v % 256] = _
  rw [blr_app]
theorem hor_appl (a b : List Int) : ∀ k, k ≤ a.length → hor (a ++ b) k = hor a k
  | 0, _ => rfl
  | k + 1, h => by
    unfold hor
    rw [hor_appl a b k (by omega)]
    have : (a ++ b).getD k 0 = a.getD k 0 := by simp only [List.getD_eq_getElem?_getD]; rw [List.getElem?_append_left (by omega)]
    rw [this]
theorem hor_blr : ∀ (n : Nat) (v : Int), 0 ≤ v → v < 256 ^ n → hor (blr n v []) n = v
  | 0, v, h0, h1 => by simp at h1; unfold hor; omega
  | n + 1, v, h0, h1 => by
    have hl : (blr n (v / 256) []).length = n := by rw [blr_len]; rfl
    rw [blr_succ]
    unfold hor
    rw [hor_appl _ _ n (by omega), hor_blr n (v / 256) (by omega) (by rw [Int.pow_succ] at h1; omega)]
    have : (blr n (v / 256) [] ++ [v % 256]).getD n 0 = v % 256 := by
      simp only [List.getD_eq_getElem?_getD]; rw [List.getElem?_append_right (by omega), hl]; simp
    rw [this]; omega
theorem blr_hor {l : List Int} (hb : Byt l) : ∀ n, n ≤ l.length → blr n (hor l n) [] = l.take n
  | 0, _ => by simp [blr]
  | n + 1, h => by
    have hg := hb.get n
    rw [blr_succ]
    unfold hor
    rw [show (hor l n * 256 + l.getD n 0) / 256 = hor l n by omega, show (hor l n * 256 + l.getD n 0) % 256 = l.getD n 0 by omega, blr_hor hb n (by omega), List.take_succ_eq_append_getElem (by omega)]
    simp [List.getD_eq_getElem?_getD, List.getElem?_eq_getElem (show n < l.length by omega)]
theorem frm_t (f : FM) (r : List Int) (h : 0 ≤ f.t ∧ f.t ≤ 18446744073709551615) : hor (frmB f ++ r) 8 = f.t := by
  have hl : (blr 8 f.t []).length = 8 := by rw [blr_len]; rfl
  have : frmB f ++ r = blr 8 f.t [] ++ ((blr 2 f.d.length [] ++ f.d) ++ r) := by unfold frmB; simp [List.append_assoc]
  rw [this, hor_appl _ _ 8 (by omega), hor_blr 8 f.t h.1 (by rw [show (256 : Int) ^ 8 = 18446744073709551616 by decide]; omega)]
theorem frm_drop8 (f : FM) (r : List Int) : (frmB f ++ r).drop 8 = blr 2 f.d.length [] ++ (f.d ++ r) := by
  have hl : (blr 8 f.t []).length = 8 := by rw [blr_len]; rfl
  have : frmB f ++ r = blr 8 f.t [] ++ (blr 2 f.d.length [] ++ (f.d ++ r)) := by unfold frmB; simp [List.append_assoc]
  rw [this]
  exact List.drop_left' hl
theorem frm_drop10 (f : FM) (r : List Int) : (frmB f ++ r).drop 10 = f.d ++ r := by
  have hl : (blr 2 (f.d.length : Int) []).length = 2 := by rw [blr_len]; rfl
  have : (frmB f ++ r).drop 10 = ((frmB f ++ r).drop 8).drop 2 := by rw [List.drop_drop]
  rw [this, frm_drop8]
  exact List.drop_left' hl
theorem frm_n (f : FM) (r : List Int) (h : f.d.length ≤ 16384) : hor ((frmB f ++ r).drop 8) 2 = f.d.length := by
  have hl : (blr 2 (f.d.length : Int) []).length = 2 := by rw [blr_len]; rfl
  rw [frm_drop8, hor_appl _ _ 2 (by omega), hor_blr 2 _ (by omega) (by rw [show (256 : Int) ^ 2 = 65536 by decide]; omega)]
theorem frm_cut (f : FM) (r : List Int) (last : Int) (ht : 0 ≤ f.t ∧ f.t ≤ 4611686018427387904) (hl : last ≤ f.t) (h0 : 0 < f.d.length) (h1 : f.d.length ≤ 16384) :
    cutE (frmB f ++ r) last = 0 ∧ cutD (frmB f ++ r) = f.d ∧ cutR (frmB f ++ r) = r ∧ hor (frmB f ++ r) 8 = f.t := by
  have e1 := frm_t f r (by omega)
  have e2 := frm_n f r h1
  have e3 := frm_drop10 f r
  have e4 : (frmB f ++ r).length = 10 + f.d.length + r.length := by rw [List.length_append, frmB_len]
  have e5 : ((f.d.length : Int)).toNat = f.d.length := Int.toNat_natCast _
  refine ⟨?_, ?_, ?_, e1⟩
  · unfold cutE
    rw [e1, e2, e4, if_neg (by omega), if_neg (by omega), if_neg (by omega), if_neg (by omega)]
  · unfold cutD
    rw [e2, e3, e5]; exact List.take_left' rfl
  · unfold cutR
    rw [e2, e3, e5]; exact List.drop_left' rfl
theorem capB_eq : ∀ (L : List FM) (s : List Int), capB L s = s ++ L.flatMap frmB
  | [], s => by simp [capB]
  | f :: r, s => by unfold capB; rw [capB_eq r, List.flatMap_cons, List.append_assoc]
theorem frmB_pos (f : FM) : 10 ≤ (frmB f).length := by rw [frmB_len]; omega
def capE' : List FM → Int → Prop
  | [], _ => True
  | f :: r, last => 0 < f.d.length ∧ f.d.length ≤ 16384 ∧ last ≤ f.t ∧ f.t ≤ 4611686018427387904 ∧ capE' r f.t
theorem capE_iff : ∀ (L : List FM) (last : Int), capE L last = 0 → capE' L last
  | [], _, _ => trivial
  | f :: r, last, h => by
    unfold capE at h
    by_cases c1 : f.d.length = 0 ∨ 16384 < f.d.length
    · rw [if_pos c1] at h; omega
    rw [if_neg c1] at h
    by_cases c2 : f.t < last ∨ 4611686018427387904 < f.t
    · rw [if_pos c2] at h; omega
    rw [if_neg c2] at h
    exact ⟨by omega, by omega, by omega, by omega, capE_iff r f.t h⟩
theorem capE_of : ∀ (L : List FM) (last : Int), capE' L last → capE L last = 0
  | [], _, _ => rfl
  | f :: r, last, ⟨h1, h2, h3, h4, h5⟩ => by unfold capE; rw [if_neg (by omega), if_neg (by omega)]; exact capE_of r f.t h5
theorem capE'_all : ∀ (L : List FM) (last : Int), capE' L last → ∀ f ∈ L, 0 < f.d.length ∧ f.d.length ≤ 16384 ∧ f.t ≤ 4611686018427387904
  | f :: r, last, ⟨h1, h2, h3, h4, h5⟩, g, hg => by
    rcases List.mem_cons.1 hg with rfl | hg
    · exact ⟨h1, h2, h4⟩
    · exact capE'_all r f.t h5 g hg
theorem dec_caps : ∀ (L : List FM) (n : Nat) (last : Int) (out : List FM), (∀ f ∈ L, 0 ≤ f.t) → capE' L last → L.length < n → out.length + L.length ≤ 1000 → decG n (L.flatMap frmB) last out = (0, out ++ L)
  | [], n, last, out, _, _, hn, _ => by
    obtain ⟨m, rfl⟩ : ∃ m, n = m + 1 := ⟨n - 1, by simp at hn; omega⟩
    unfold decG; simp
  | f :: r, n, last, out, h0, h, hn, ho => by
    obtain ⟨m, rfl⟩ : ∃ m, n = m + 1 := ⟨n - 1, by simp at hn; omega⟩
    obtain ⟨h1, h2, h3, h4, h5⟩ := h
    obtain ⟨c1, c2, c3, c4⟩ := frm_cut f (r.flatMap frmB) last ⟨h0 f (List.mem_cons_self ..), h4⟩ h3 h1 h2
    have hp := frmB_pos f
    rw [List.flatMap_cons]
    unfold decG
    rw [if_neg (by rw [List.length_append]; omega), if_neg (by simp at ho; omega), if_neg (by rw [c1]; simp), c2, c3, c4]
    rw [dec_caps r m f.t _ (fun g hg => h0 g (List.mem_cons_of_mem _ hg)) h5 (by simp at hn; omega) (by simp at ho ⊢; omega), List.append_assoc]; rfl
theorem flen : ∀ (L : List FM), L.length ≤ (L.flatMap frmB).length
  | [] => by simp
  | f :: r => by rw [List.flatMap_cons, List.length_append, List.length_cons]; have := flen r; have := frmB_pos f; omega
theorem flen_up : ∀ (L : List FM), (∀ f ∈ L, f.d.length ≤ 16384) → (L.flatMap frmB).length ≤ L.length * 16394
  | [], _ => by simp
  | f :: r, h => by
    rw [List.flatMap_cons, List.length_append, List.length_cons, frmB_len]
    have := flen_up r (fun g hg => h g (List.mem_cons_of_mem _ hg))
    have := h f (List.mem_cons_self ..)
    omega
theorem cap_byt (L : List FM) (h : ∀ f ∈ L, Byt f.d) : Byt (capB L flog) := by
  rw [capB_eq]
  intro x hx
  rcases List.mem_append.1 hx with hx | hx
  · exact flog_byt x hx
  · obtain ⟨f, hf, hx⟩ := List.mem_flatMap.1 hx
    exact frmB_byt (h f hf) x hx
/-- DECODE OF ENCODE ARE THE FRAMES. -/
theorem dec_enc46 (L : List FM) (h0 : ∀ f ∈ L, 0 ≤ f.t) (hn : L.length ≤ 1000) (he : capE L 0 = 0) : decE (capB L flog) = (0, L) := by
  have hf4 : flog.length = 4 := rfl
  rw [capB_eq]
  unfold decE
  rw [if_neg (by rw [List.length_append]; omega), if_neg (by rw [List.take_left' hf4]; simp), List.drop_left' hf4]
  have := dec_caps L ((L.flatMap frmB).length + 1) 0 [] h0 (capE_iff L 0 he) (by have := flen L; omega) (by simpa using hn)
  simpa using this
theorem frm_of {l : List Int} {last : Int} (hb : Byt l) (h : cutE l last = 0) : l = frmB ⟨hor l 8, cutD l⟩ ++ cutR l := by
  obtain ⟨h1, h2, h3, h4, h5⟩ := cut_zero h
  have hd : Byt (l.drop 8) := fun x hx => hb x (List.mem_of_mem_drop hx)
  have hlen : (cutD l).length = (hor (l.drop 8) 2).toNat := by unfold cutD; rw [List.length_take, List.length_drop]; omega
  have e1 : blr 8 (hor l 8) [] = l.take 8 := blr_hor hb 8 (by omega)
  have e2 : blr 2 ((cutD l).length : Int) [] = (l.drop 8).take 2 := by
    rw [hlen, Int.toNat_of_nonneg (by omega)]
    exact blr_hor hd 2 (by rw [List.length_drop]; omega)
  have e3 : cutD l ++ cutR l = l.drop 10 := List.take_append_drop _ _
  show l = ((blr 8 (hor l 8) [] ++ blr 2 ((cutD l).length : Int) []) ++ cutD l) ++ cutR l
  rw [e1, e2, List.append_assoc, e3, List.append_assoc, show l.drop 10 = (l.drop 8).drop 2 by rw [List.drop_drop], List.take_append_drop, List.take_append_drop]
theorem cutD_byt {l : List Int} (h : Byt l) : Byt (cutD l) := fun x hx => h x (List.mem_of_mem_drop (List.mem_of_mem_take hx))
theorem cut_size {l : List Int} {last : Int} (h : cutE l last = 0) : hor (l.drop 8) 2 ≤ 16384 := by
  unfold cutE at h
  by_cases c0 : l.length < 10
  · rw [if_pos c0] at h; omega
  rw [if_neg c0] at h
  by_cases c1 : hor (l.drop 8) 2 < 1 ∨ 16384 < hor (l.drop 8) 2
  · rw [if_pos c1] at h; omega
  · omega
theorem decG_spec : ∀ (n : Nat) (l : List Int) (last : Int) (out L' : List FM), Byt l → 0 ≤ last → out.length ≤ 1000 → decG n l last out = (0, L') → ∃ L, L' = out ++ L ∧ l = L.flatMap frmB ∧ capE' L last ∧ L'.length ≤ 1000 ∧ (∀ f ∈ L, 0 ≤ f.t ∧ Byt f.d)
  | 0, _, _, _, _, _, _, _, h => by unfold decG at h; simp at h
  | n + 1, l, last, out, L', hb, hla, ho, h => by
    unfold decG at h
    by_cases c0 : l.length = 0
    · rw [if_pos c0] at h
      simp at h
      exact ⟨[], by simp [h], by simpa using c0, trivial, by rw [← h]; exact ho, fun f hf => absurd hf (by simp)⟩
    rw [if_neg c0] at h
    by_cases c1 : out.length = 1000
    · rw [if_pos c1] at h; simp at h
    rw [if_neg c1] at h
    by_cases c2 : cutE l last ≠ 0
    · rw [if_pos c2] at h; simp at h; exact absurd h.1 c2
    rw [if_neg c2] at h
    have c2' : cutE l last = 0 := Decidable.not_not.1 c2
    obtain ⟨k1, k2, k3, k4, k5⟩ := cut_zero c2'
    have hh := (hor_rng hb 8).1
    obtain ⟨L, e1, e2, e3, e4, e5⟩ := decG_spec n (cutR l) (hor l 8) _ L' (cutR_byt hb) hh (by simp; omega) h
    have hlen : (cutD l).length = (hor (l.drop 8) 2).toNat := by unfold cutD; rw [List.length_take, List.length_drop]; omega
    have k6 := cut_size c2'
    refine ⟨⟨hor l 8, cutD l⟩ :: L, ?_, ?_, ?_, e4, ?_⟩
    · rw [e1, List.append_assoc]; rfl
    · rw [List.flatMap_cons, ← e2]; exact frm_of hb c2'
    · exact ⟨by show 0 < (cutD l).length; omega, by show (cutD l).length ≤ _; omega, k4, k5, e3⟩
    · intro f hf
      rcases List.mem_cons.1 hf with rfl | hf
      · exact ⟨hh, cutD_byt hb⟩
      · exact e5 f hf
/-- ENCODE OF DECODE ARE THE BYTES. -/
theorem enc_dec46 (l : List Int) (L : List FM) (hb : Byt l) (h : decE l = (0, L)) : capB L flog = l ∧ capE L 0 = 0 ∧ L.length ≤ 1000 ∧ ∀ f ∈ L, f.ok := by
  unfold decE at h
  by_cases c0 : l.length < 4
  · rw [if_pos c0] at h; simp at h
  rw [if_neg c0] at h
  by_cases c1 : l.take 4 ≠ flog
  · rw [if_pos c1] at h; simp at h
  rw [if_neg c1] at h
  have hd : Byt (l.drop 4) := fun x hx => hb x (List.mem_of_mem_drop hx)
  obtain ⟨L0, e1, e2, e3, e4, e5⟩ := decG_spec _ _ 0 [] L hd (Int.le_refl _) (by simp) h
  simp at e1; subst e1
  refine ⟨?_, capE_of L 0 e3, e4, fun f hf => ?_⟩
  · rw [capB_eq, ← e2, ← Decidable.not_not.1 c1, List.take_append_drop]
  · obtain ⟨a1, a2, a3⟩ := capE'_all L 0 e3 f hf
    obtain ⟨b1, b2⟩ := e5 f hf
    exact ⟨⟨b1, by omega⟩, b2, by omega⟩
end Go.Proofs.Ytljpiofpfankoaa
