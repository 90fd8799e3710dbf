/-
  Captures: the reference's Encode. Conditions: what the slice holds is known; each frame may be.
-/
import Derived.Test.YtljpiofpfankoaaCpK
namespace Go.Proofs.Ytljpiofpfankoaa
open Go.RowKit Go.Sort
set_option linter.unusedVariables false
set_option linter.unusedSimpArgs false
theorem HoldB.nil (w : World) (base : Nat) : HoldB w base (.slice none 0 0) [] := ⟨rfl, .inl ⟨rfl, rfl⟩⟩
theorem HoldB.ne_blk {w : World} {base : Nat} {v : Value} {l : List Int} {B : Nat} {cs : Array Value} {t : TypeId} (h : HoldB w base v l) (hB : Blk w B cs t) (ht : t ≠ 5) : some B ≠ v.ownBlock := by
  intro e
  rcases h.2 with ⟨hv, _⟩ | ⟨g, cap, cur, hv, _, hh, _⟩
  · rw [hv] at e; cases e
  · rw [hv] at e
    cases e
    unfold Blk at hB
    rw [hh] at hB
    cases hB
    exact ht rfl
set_option maxRecDepth 100000 in
set_option maxHeartbeats 8000000 in
theorem rEncode46 (L : List FM) (a : Option Addr) (b off cap : Nat) (S : List Int) (w : World) (ha : L ≠ [] → a = some ⟨b, off, none⟩) (hb : L ≠ [] → b < w.heap.size) (hL : FmAt w b off L) (ok : ∀ f ∈ L, f.ok) (hpos : ∀ f ∈ L, 0 < f.d.length ∧ f.d.length ≤ 16384) (hn : L.length ≤ 1000) (hcap : L.length ≤ cap) (hS : capB L flog = S) :
    Calls Try.prog 18 #[.slice a L.length cap] w fun x w' => x = .returned (SV S) ∧ Below w.heap.size w w' := by
  have ks := sv_size
  have HS := hide hS; clear hS
  go_enter Try.func18, Try.ntmps18
  go_wp2_with (refine wpList_append2 rfl (.tmp 6) _ rfl w.heap.size (.slice none 0 0) [] flog (by rfl) (by rfl) (.inl (HoldB.nil _ _)) flog_byt (by decide) (by decide) (Nat.le_refl _) ?_; intro v1 w1 H1 hb1 hs1 hk1; have hz1 := hb1.size)
  go_loopw [3, 10] (fun o i wr => ∃ (k : Nat) (s : List Int), k ≤ L.length ∧ i = .int .i64 k ∧ HoldB wr w.heap.size o s ∧ (4 ≤ s.length ∧ s.length ≤ 4 + k * 16394) ∧ Below w.heap.size w wr ∧ Hid (capB (L.drop k) s = S)) (fun _ i _ => L.length - (intOf i).toNat)
  case atStart => exact ⟨0, flog, Nat.zero_le _, rfl, H1, ⟨by decide, by decide⟩, hb1, HS⟩
  case round =>
    obtain ⟨k, s, hk, rfl, H0, hsl, g0, hss⟩ := hrel
    have hl0 := g0.size
    by_cases hlt : k < L.length
    · obtain ⟨f, hf⟩ : ∃ f, L[k]? = some f := ⟨_, List.getElem?_eq_getElem hlt⟩
      have hne : L ≠ [] := by intro e; rw [e] at hlt; simp at hlt
      have hbw := hb hne
      obtain rfl := ha hne
      obtain ⟨q0, q1⟩ := (hL.below g0 hbw) k f hf
      obtain ⟨o1, o2, o3⟩ := ok f (List.mem_of_getElem? hf)
      obtain ⟨p1, p2⟩ := hpos f (List.mem_of_getElem? hf)
      have hsb := hss.out
      rw [drop_next hf] at hsb
      have hki : (k : Int) < (L.length : Int) := by omega
      have hlb : (k : Int) ≤ 1000 := by omega
      obtain ⟨A, hA⟩ : ∃ A, blr 8 f.t [] = A := ⟨_, rfl⟩
      obtain ⟨B, hB⟩ : ∃ B, blr 2 f.d.length [] = B := ⟨_, rfl⟩
      have lA : A.length = 8 := by rw [← hA, blr_len]; rfl
      have lB : B.length = 2 := by rw [← hB, blr_len]; rfl
      have b2 : Byt A := by rw [← hA]; exact blr_byt 8 _ [] (fun _ h => absurd h (by simp))
      have b4 : Byt B := by rw [← hB]; exact blr_byt 2 _ [] (fun _ h => absurd h (by simp))
      have b5 := o2
      have hN2 : Hid (capB (L.drop (k + 1)) (((s ++ A) ++ B) ++ f.d) = S) := by
        have : ((s ++ A) ++ B) ++ f.d = s ++ frmB f := by unfold frmB; rw [hA, hB, List.append_assoc, List.append_assoc, List.append_assoc]
        rw [this]; exact hsb
      have hwl : IntKind.u64.wrap (f.d.length : Int) = (f.d.length : Int) := IntWalk.u64_in _ ⟨by omega, by omega⟩
      have HA := hide hA; have HB := hide hB
      clear hA hB hss hsb
      go_wp2_with fail
      refine (rBytes46 f.t 8 8 A _ rfl o1 (by decide) HA.out).mono ?_
      rintro e1 x1 ⟨rfl, hb1'⟩
      have H1' := (H0.below (show Below wr.heap.size wr _ from by (repeat' (first | (with_reducible (first | exact Below.refl _ _ | assumption | refine below_drewN ?_ _ | refine Below.drew ?_ | refine Below.alloc ?_ ?_ _ | refine Below.setCell ?_ ?_ _)) | go_size)))).below hb1'
      have g1 : Below w.heap.size w x1 := Below.trans (show Below w.heap.size w _ from by (repeat' (first | (with_reducible (first | exact Below.refl _ _ | assumption | refine below_drewN ?_ _ | refine Below.drew ?_ | refine Below.alloc ?_ ?_ _ | refine Below.setCell ?_ ?_ _)) | go_size))) (hb1'.mono (by simp; omega))
      have hz1' := g1.size
      have X1 : Blk x1 (wr.heap.size) #[.int .u64 f.t, SV f.d] 100 := Blk.below (by (repeat' (first | (with_reducible (first | assumption | exact Blk.alloc_new _ _ _ (by first | rfl | (simp; done) | omega) | apply Blk.drewN | apply Blk.drew | apply Blk.alloc_old | apply Blk.set_same | apply Blk.set_other)) | (show (_ : Nat) ≠ _; first | omega | (simp; done) | (simp; omega)) | ((simp only [List.setIfInBounds_toArray, List.set_cons_succ, List.set_cons_zero]); (with_reducible exact rfl)) | (with_reducible exact rfl) | (show (_ : Array Value) = _; exact rfl)))) hb1' (by simp)
      have cX := X1.cell; have fX := X1.frozen; have zX := X1.size
      have hw1 : wr.heap.size < x1.heap.size := X1.size
      go_wp2_with (refine wpList_append2 rfl (.tmp 14) (.tmp 17) rfl w.heap.size u3 (s) (A) (by rfl) (by rfl) (.inl (H1'.below (by (repeat' (first | (with_reducible (first | exact Below.refl _ _ | assumption | refine below_drewN ?_ _ | refine Below.drew ?_ | refine Below.alloc ?_ ?_ _ | refine Below.setCell ?_ ?_ _)) | go_size))))) b2 (by omega) (by (try simp only [List.length_append]); omega) (by first | omega | (simp; omega)) ?_; intro v2 x2 H2 hb2 hs2 hk2; have g2 : Below w.heap.size w x2 := Below.trans (by (repeat' (first | (with_reducible (first | exact Below.refl _ _ | assumption | refine below_drewN ?_ _ | refine Below.drew ?_ | refine Below.alloc ?_ ?_ _ | refine Below.setCell ?_ ?_ _)) | go_size))) hb2; have hz2 := g2.size; have X2 : Blk x2 (wr.heap.size) #[.int .u64 f.t, SV f.d] 100 := hk2 _ _ _ ((H1').ne_blk X1 (by decide)) X1; have cX := X2.cell; have fX := X2.frozen; have zX := X2.size)
      go_wp2_with fail
      refine (rBytes46 f.d.length 2 2 B _ rfl (by omega) (by decide) HB.out).mono ?_
      rintro e3 x3 ⟨rfl, hb3⟩
      have H3 := H2.below hb3
      have g3 : Below w.heap.size w x3 := g2.trans (hb3.mono g2.size)
      have hz3 := g3.size
      have X3 : Blk x3 (wr.heap.size) #[.int .u64 f.t, SV f.d] 100 := Blk.below X2 hb3 X2.size
      replace cX := X3.cell; replace fX := X3.frozen; replace zX := X3.size
      go_wp2_with (first
        | (refine wpList_append2 rfl (.tmp 19) (.tmp 24) rfl w.heap.size v2 (s ++ A) (B) (by rfl) (by rfl) (.inl (H3.below (by (repeat' (first | (with_reducible (first | exact Below.refl _ _ | assumption | refine below_drewN ?_ _ | refine Below.drew ?_ | refine Below.alloc ?_ ?_ _ | refine Below.setCell ?_ ?_ _)) | go_size))))) b4 (by omega) (by (try simp only [List.length_append]); omega) (by first | omega | (simp; omega)) ?_; intro v4 x4 H4 hb4 hs4 hk4; have g4 : Below w.heap.size w x4 := Below.trans (by (repeat' (first | (with_reducible (first | exact Below.refl _ _ | assumption | refine below_drewN ?_ _ | refine Below.drew ?_ | refine Below.alloc ?_ ?_ _ | refine Below.setCell ?_ ?_ _)) | go_size))) hb4; have hz4 := g4.size; have X4 : Blk x4 (wr.heap.size) #[.int .u64 f.t, SV f.d] 100 := hk4 _ _ _ ((H3).ne_blk X3 (by decide)) X3; have cX := X4.cell; have fX := X4.frozen; have zX := X4.size)
        | (refine wpList_append2 rfl (.tmp 26) (.tmp 28) rfl w.heap.size v4 ((s ++ A) ++ B) (f.d) (by rfl) (by rfl) (.inl (H4.below (by (repeat' (first | (with_reducible (first | exact Below.refl _ _ | assumption | refine below_drewN ?_ _ | refine Below.drew ?_ | refine Below.alloc ?_ ?_ _ | refine Below.setCell ?_ ?_ _)) | go_size))))) b5 (by omega) (by (try simp only [List.length_append]); omega) (by first | omega | (simp; omega)) ?_; intro v5 x5 H5 hb5 hs5 hk5; have g5 : Below w.heap.size w x5 := Below.trans (by (repeat' (first | (with_reducible (first | exact Below.refl _ _ | assumption | refine below_drewN ?_ _ | refine Below.drew ?_ | refine Below.alloc ?_ ?_ _ | refine Below.setCell ?_ ?_ _)) | go_size))) hb5; have hz5 := g5.size; have X5 : Blk x5 (wr.heap.size) #[.int .u64 f.t, SV f.d] 100 := hk5 _ _ _ ((H4).ne_blk X4 (by decide)) X4; have cX := X5.cell; have fX := X5.frozen; have zX := X5.size))
      go_roundw
      case rel => exact ⟨k + 1, ((s ++ A) ++ B) ++ f.d, by omega, by go_num, H5, by simp only [List.length_append]; omega, by (repeat' (first | (with_reducible (first | exact Below.refl _ _ | assumption | refine below_drewN ?_ _ | refine Below.drew ?_ | refine Below.alloc ?_ ?_ _ | refine Below.setCell ?_ ?_ _)) | go_size)), hN2⟩
      case measure => simp [intOf]; omega
    · obtain rfl : k = L.length := by omega
      have hsS : s = S := by have := hss.out; rw [List.drop_length] at this; exact this
      subst hsS
      have hcv := H0.conv (by omega)
      clear hss
      go_wp2
      go_ret
      exact ⟨rfl, by (repeat' (first | (with_reducible (first | exact Below.refl _ _ | assumption | refine below_drewN ?_ _ | refine Below.drew ?_ | refine Below.alloc ?_ ?_ _ | refine Below.setCell ?_ ?_ _)) | go_size))⟩
end Go.Proofs.Ytljpiofpfankoaa
