/-
  Captures: the law's one. Conditions: none.
-/
import Derived.Test.YtljpiofpfankoaaCpM
import Derived.BigRegion
import Derived.Test.YtljpiofpfankoaaGuarG
namespace Go.Proofs.Ytljpiofpfankoaa
open Go.RowKit Go.Sort
set_option linter.unusedVariables false
set_option linter.unusedSimpArgs false
def oneL : List FM := [⟨5, [97, 98]⟩]
def oneS : List Int := [102, 108, 111, 103, 0, 0, 0, 0, 0, 0, 0, 5, 0, 2, 97, 98]
def oneO : List OP := [advO 5, ⟨3, 0, 2, ⟨0, 0, 0, 0⟩, 0⟩]
theorem one_ok : ∀ f ∈ oneL, f.ok := by
  intro f hf
  unfold oneL at hf
  simp at hf; subst hf
  refine ⟨by decide, ?_, by decide⟩
  intro x hx; simp at hx; rcases hx with rfl | rfl <;> decide
theorem one_capE : capE oneL 0 = 0 := by decide
theorem one_capB : capB oneL flog = oneS := by kernel_rfl
theorem one_decE : decE oneS = (0, oneL) := by kernel_rfl
theorem one_ops : opsG 100 oneL 0 0 [] = oneO := by kernel_rfl
theorem one_byt : Byt oneS := by intro x hx; unfold oneS at hx; simp at hx; omega
theorem SV_s : SV oneS = .string ⟨#[102, 108, 111, 103, 0, 0, 0, 0, 0, 0, 0, 5, 0, 2, 97, 98]⟩ := by kernel_rfl
theorem SV_ab : (SV [97, 98] : Value) = .string ⟨#[97, 98]⟩ := by kernel_rfl
theorem fm_one {v : World} {B : Nat} (h : Blk v B #[Value.int IntKind.u64 5, Value.string ⟨#[97, 98]⟩] 55) : FmAt v B 0 oneL := by
  intro i f hf
  have hi := (List.getElem?_eq_some_iff.1 hf).1
  have : i = 0 := by unfold oneL at hi; simp at hi; exact hi
  subst this
  unfold oneL at hf; simp at hf; subst hf
  rw [h.cell, h.cell, SV_ab]
  exact ⟨rfl, rfl⟩
theorem run_string_one : (⟨#[102, 108, 111, 103]⟩ : ByteArray) ++ ⟨#[0, 0, 0, 0, 0, 0, 0, 5, 0, 2]⟩ = ⟨#[102, 108, 111, 103, 0, 0, 0, 0, 0, 0, 0, 5, 0, 2]⟩ := by kernel_rfl
theorem run_string_two : (⟨#[102, 108, 111, 103, 0, 0, 0, 0, 0, 0, 0, 5, 0, 2]⟩ : ByteArray) ++ ⟨#[97, 98]⟩ = ⟨#[102, 108, 111, 103, 0, 0, 0, 0, 0, 0, 0, 5, 0, 2, 97, 98]⟩ := by kernel_rfl
theorem frameq (v : World) : (binOp .eql 55 (.agg #[.int .u64 5, .string ⟨#[97, 98]⟩]) (.agg #[.int .u64 5, .string ⟨#[97, 98]⟩])).run Try.prog v = .ok (.bool true) v := by kernel_rfl
set_option maxRecDepth 100000 in
set_option maxHeartbeats 8000000 in
theorem capOne (w : World) : Calls Try.prog 13 #[] w fun x w' => x = .returned (.bool true) ∧ Below w.heap.size w w' := by
  have ks := sv_size
  have KE : Hid (∀ v a, FmAt v w.heap.size 0 oneL → w.heap.size < v.heap.size → a = some (⟨w.heap.size, 0, none⟩ : Addr) → Calls Try.prog 14 #[.slice a 1 1] v fun x w' => x = .returned (.tuple #[.string ⟨#[102, 108, 111, 103, 0, 0, 0, 0, 0, 0, 0, 5, 0, 2, 97, 98]⟩, .int .i64 0]) ∧ Below v.heap.size v w') := hide fun v a h1 h2 h3 => by
    have h := capEncode oneL a w.heap.size 0 1 0 oneS v (fun _ => h3) (fun _ => h2) h1 one_ok (by decide) (by decide) one_capE one_capB
    rw [if_pos rfl, SV_s] at h; exact h
  have KD : Hid (∀ v, Calls Try.prog 17 #[.string ⟨#[102, 108, 111, 103, 0, 0, 0, 0, 0, 0, 0, 5, 0, 2, 97, 98]⟩] v fun x w' => ∃ u, x = .returned (.tuple #[u, .int .i64 0]) ∧ HoldFr w' v.heap.size u oneL ∧ Below v.heap.size v w') := hide fun v => by
    have h := capDecode oneS v one_byt (by decide)
    rw [one_decE, SV_s] at h
    refine h.mono ?_
    rintro e w' ⟨u, h1, h2, h3, h4⟩
    exact ⟨u, h1, h2 rfl, h4⟩
  have KO : Hid (∀ v, FmAt v w.heap.size 0 oneL → w.heap.size < v.heap.size → Calls Try.prog 21 #[.slice (some (⟨w.heap.size, 0, none⟩ : Addr)) 1 1, .int .i64 100] v fun x w' => ∃ u, x = .returned (.tuple #[u, .int .i64 0]) ∧ HoldO w' v.heap.size u oneO ∧ Below v.heap.size v w') := hide fun v h1 h2 => by
    refine capOps_ok oneL (some ⟨w.heap.size, 0, none⟩) w.heap.size 0 1 100 oneS oneO v (fun _ => rfl) (fun _ => h2) h1 one_ok (by decide) (by decide) (by decide) one_capE one_ops (hide fun v1 hb1 => ?_)
    have h := capEncode oneL (some ⟨w.heap.size, 0, none⟩) w.heap.size 0 1 0 oneS v1 (fun _ => rfl) (fun _ => Nat.lt_of_lt_of_le h2 hb1.size) (h1.below hb1 h2) one_ok (by decide) (by decide) one_capE one_capB
    rw [if_pos rfl] at h; exact h
  go_enter Try.func13, Try.ntmps13
  go_wp2_with fail
  have A0 : Blk (w.alloc (.cells #[Value.int IntKind.u64 5, Value.string ⟨#[97, 98]⟩] 55)) w.heap.size #[Value.int IntKind.u64 5, Value.string ⟨#[97, 98]⟩] 55 := by (repeat' (first | (with_reducible (first | assumption | exact Blk.alloc_new _ _ _ (by first | rfl | (simp; done) | omega) | apply Blk.drewN | apply Blk.drew | apply Blk.alloc_old | apply Blk.set_same | apply Blk.set_other)) | (show (_ : Nat) ≠ _; first | omega | (simp; done) | (simp; omega)) | ((simp only [List.setIfInBounds_toArray, List.set_cons_succ, List.set_cons_zero]); (with_reducible exact rfl)) | (with_reducible exact rfl) | (show (_ : Array Value) = _; exact rfl)))
  refine (KE.out _ _ (fm_one A0) (by simp) rfl).mono ?_
  rintro e1 w1 ⟨rfl, hb1⟩
  have g1 : Below w.heap.size w w1 := Below.trans (by (repeat' (first | (with_reducible (first | exact Below.refl _ _ | assumption | refine below_drewN ?_ _ | refine Below.drew ?_ | refine Below.alloc ?_ ?_ _ | refine Below.setCell ?_ ?_ _)) | go_size))) (hb1.mono (by simp))
  have hz1 := g1.size
  have A1 := A0.below hb1 A0.size
  go_wp2_with fail
  refine (KD.out _).mono ?_
  rintro e2 w2 ⟨u2, rfl, D2, hb2⟩
  obtain ⟨a2, c2, gD, rfl, hcD, haD, hgD, atD⟩ := own_at D2
  obtain rfl := haD (by decide)
  have hgD := hgD (by decide)
  have g2 : Below w.heap.size w w2 := Below.trans (by (repeat' (first | (with_reducible (first | exact Below.refl _ _ | assumption | refine below_drewN ?_ _ | refine Below.drew ?_ | refine Below.alloc ?_ ?_ _ | refine Below.setCell ?_ ?_ _)) | go_size))) (hb2.mono (by (try simp); omega))
  have hz2 := g2.size
  have A2 : Blk w2 w.heap.size #[Value.int IntKind.u64 5, Value.string ⟨#[97, 98]⟩] 55 := (show Blk _ w.heap.size #[Value.int IntKind.u64 5, Value.string ⟨#[97, 98]⟩] 55 from A1).below hb2 A1.size
  go_wp2_with fail
  refine (KO.out _ (fm_one (by (repeat' (first | (with_reducible (first | assumption | exact Blk.alloc_new _ _ _ (by first | rfl | (simp; done) | omega) | apply Blk.drewN | apply Blk.drew | apply Blk.alloc_old | apply Blk.set_same | apply Blk.set_other)) | (show (_ : Nat) ≠ _; first | omega | (simp; done) | (simp; omega)) | ((simp only [List.setIfInBounds_toArray, List.set_cons_succ, List.set_cons_zero]); (with_reducible exact rfl)) | (with_reducible exact rfl) | (show (_ : Array Value) = _; exact rfl))))) A2.size).mono ?_
  rintro e3 w3 ⟨u3, rfl, O3, hb3⟩
  obtain ⟨a3, c3, gO, rfl, hcO, haO, hgO, atO⟩ := HoldG.at O3 opVs_len
  obtain rfl := haO (by decide)
  have hgO := hgO (by decide)
  have g3 : Below w.heap.size w w3 := Below.trans (by (repeat' (first | (with_reducible (first | exact Below.refl _ _ | assumption | refine below_drewN ?_ _ | refine Below.drew ?_ | refine Below.alloc ?_ ?_ _ | refine Below.setCell ?_ ?_ _)) | go_size))) (hb3.mono (by (try simp); omega))
  have hz3 := g3.size
  have A3 : Blk w3 w.heap.size #[Value.int IntKind.u64 5, Value.string ⟨#[97, 98]⟩] 55 := (show Blk _ w.heap.size #[Value.int IntKind.u64 5, Value.string ⟨#[97, 98]⟩] 55 from A2).below hb3 A2.size
  have atD3 := atD.below (show Below w2.heap.size w2 w3 from hb3) hgD
  have qD := atD3 0 ⟨5, [97, 98]⟩ rfl
  rw [SV_ab] at qD
  have qO0 := atO 0 (advO 5) rfl 9 (.int .u64 5) rfl
  have qO1 := atO 1 ⟨3, 0, 2, ⟨0, 0, 0, 0⟩, 0⟩ rfl 4 (.int .i64 2) rfl
  have zD : gD < w3.heap.size := Nat.lt_of_lt_of_le hgD hb3.size
  have zO : gO < w3.heap.size := hgO
  go_upto_region 5 with (fail)
  refine wp_region_guarG [.val (.int .i64 0), .val (.bool true), .val (.bool true), .val (.string ⟨#[102, 108, 111, 103, 0, 0, 0, 0, 0, 0, 0, 5, 0, 2, 97, 98]⟩), .cells #[.int .u8 0, .int .u8 0, .int .u8 0, .int .u8 0, .int .u8 0, .int .u8 0, .int .u8 0, .int .u8 5, .int .u8 0, .int .u8 2] 5, .val (.string ⟨#[0, 0, 0, 0, 0, 0, 0, 5, 0, 2]⟩), .val (.string ⟨#[102, 108, 111, 103, 0, 0, 0, 0, 0, 0, 0, 5, 0, 2]⟩), .val (.string ⟨#[102, 108, 111, 103, 0, 0, 0, 0, 0, 0, 0, 5, 0, 2, 97, 98]⟩), .val (.bool true), .val (.bool true), .val (.bool true), .val (.int .i64 0), .val (.bool true), .val (.bool true), .val (.bool true), .val (.slice (some ⟨gD, 0, none⟩) 1 c2), .val (.int .i64 1), .val (.bool true), .val (.bool true), .val (.bool true), .val (.slice (some ⟨gD, 0, none⟩) 1 c2), .val (.pointer (some ⟨gD, 0, none⟩)), .val (.agg #[.int .u64 5, .string ⟨#[97, 98]⟩]), .val (.slice (some ⟨w.heap.size, 0, none⟩) 1 1), .val (.pointer (some ⟨w.heap.size, 0, none⟩)), .val (.agg #[.int .u64 5, .string ⟨#[97, 98]⟩]), .val (.bool true), .val (.bool true), .val (.bool true), .val (.int .i64 0), .val (.bool true), .val (.bool true), .val (.bool true), .val (.slice (some ⟨gO, 0, none⟩) 2 c3), .val (.int .i64 2), .val (.bool true), .val (.bool true), .val (.bool true), .val (.slice (some ⟨gO, 0, none⟩) 2 c3), .val (.pointer (some ⟨gO, 0, none⟩)), .val (.pointer (some ⟨gO, 9, none⟩)), .val (.int .u64 5), .val (.bool true), .val (.bool true), .val (.bool true), .val (.slice (some ⟨gO, 0, none⟩) 2 c3), .val (.pointer (some ⟨gO, 10, none⟩)), .val (.pointer (some ⟨gO, 13, none⟩)), .val (.pointer (some ⟨gO, 14, none⟩)), .val (.int .i64 2), .val (.bool true), .val (.bool true), .val (.bool true)] (by kernel_rfl) (by kernel_rfl) (by kernel_rfl) ?_ ?_
  · refine ⟨?_, ?_, ?_, ?_, ?_, ?_, ?_, ?_, ?_, ?_, ?_, ?_, ?_, ?_, ?_, ?_, ?_, ?_, ?_, ?_, ?_, ?_, ?_, ?_, ?_, ?_, ?_, ?_, ?_, ?_, ?_, ?_, ?_, ?_, ?_, ?_, ?_, ?_, ?_, ?_, ?_, ?_, ?_, ?_, ?_, ?_, ?_, ?_, ?_, ?_, ?_, ?_, ?_, trivial⟩
    · intro a v c
      have e3 : a.eval (.tmp 3) = .int .i64 0 := (c.off 3 (by kernel_rfl)).trans rfl
      have f3 := (eval_opt a 3).trans e3
      exact gval (.int .i64 0) (by simp only [execOp, f3, e3]; go_simp) rfl
    · intro a v c
      have e25 : a.eval (.tmp 25) = .int .i64 0 := c.dep 0 _ 25 (by kernel_rfl) rfl rfl
      have f25 := (eval_opt a 25).trans e25
      exact gval (.bool true) (by simp only [execOp, f25, e25]; go_simp) rfl
    · intro a v c
      have e26 : a.eval (.tmp 26) = .bool true := c.dep 1 _ 26 (by kernel_rfl) rfl rfl
      have f26 := (eval_opt a 26).trans e26
      exact gval (.bool true) (by simp only [execOp, f26, e26]; go_simp) rfl
    · intro a v c
      have e2 : a.eval (.tmp 2) = .string ⟨#[102, 108, 111, 103, 0, 0, 0, 0, 0, 0, 0, 5, 0, 2, 97, 98]⟩ := (c.off 2 (by kernel_rfl)).trans rfl
      have f2 := (eval_opt a 2).trans e2
      exact gval (.string ⟨#[102, 108, 111, 103, 0, 0, 0, 0, 0, 0, 0, 5, 0, 2, 97, 98]⟩) (by simp only [execOp, f2, e2]; go_simp) rfl
    · intro a v c
      exact gslice #[.int .u8 0, .int .u8 0, .int .u8 0, .int .u8 0, .int .u8 0, .int .u8 0, .int .u8 0, .int .u8 5, .int .u8 0, .int .u8 2] 5 rfl (by simp only [execOp]; go_simp)
    · intro a v c
      obtain ⟨B29, e29, hB29⟩ : ∃ b, a.eval (.tmp 29) = .slice (some ⟨b, 0, none⟩) 10 10 ∧ Blk v b #[.int .u8 0, .int .u8 0, .int .u8 0, .int .u8 0, .int .u8 0, .int .u8 0, .int .u8 0, .int .u8 5, .int .u8 0, .int .u8 2] 5 := c.dep 4 _ 29 (by kernel_rfl) rfl rfl
      have cB29 := hB29.cell
      have f29 := (eval_opt a 29).trans e29
      have bb : Below w3.heap.size w3 v := Below.trans (Below.drew (Below.refl _ _)) c.below
      have hcv : (convert 73 9 (.slice (some ⟨B29, 0, none⟩) 10 10)).run Try.prog v = .ok (.string ⟨#[0, 0, 0, 0, 0, 0, 0, 5, 0, 2]⟩) v := run_convert_bytes_arg (P := Try.prog) v 73 5 Try.underlying73 Try.underlying5 B29 0 10 10 [0, 0, 0, 0, 0, 0, 0, 5, 0, 2] rfl (fun i hi => by rw [Nat.zero_add, cB29]; match i, hi with | 0, _ => rfl | 1, _ => rfl | 2, _ => rfl | 3, _ => rfl | 4, _ => rfl | 5, _ => rfl | 6, _ => rfl | 7, _ => rfl | 8, _ => rfl | 9, _ => rfl | j + 10, h => exact absurd h (by show ¬ j + 10 < 10; omega)) 9 Try.underlying9
      exact gval (.string ⟨#[0, 0, 0, 0, 0, 0, 0, 5, 0, 2]⟩) (by simp only [execOp, f29, e29]; go_simp) rfl
    · intro a v c
      have e30 : a.eval (.tmp 30) = .string ⟨#[0, 0, 0, 0, 0, 0, 0, 5, 0, 2]⟩ := c.dep 5 _ 30 (by kernel_rfl) rfl rfl
      have f30 := (eval_opt a 30).trans e30
      have bb : Below w3.heap.size w3 v := Below.trans (Below.drew (Below.refl _ _)) c.below
      have hst := run_string_one
      exact gval (.string ⟨#[102, 108, 111, 103, 0, 0, 0, 0, 0, 0, 0, 5, 0, 2]⟩) (by simp only [execOp, f30, e30]; go_simp) rfl
    · intro a v c
      have e31 : a.eval (.tmp 31) = .string ⟨#[102, 108, 111, 103, 0, 0, 0, 0, 0, 0, 0, 5, 0, 2]⟩ := c.dep 6 _ 31 (by kernel_rfl) rfl rfl
      have f31 := (eval_opt a 31).trans e31
      have bb : Below w3.heap.size w3 v := Below.trans (Below.drew (Below.refl _ _)) c.below
      have hst := run_string_two
      exact gval (.string ⟨#[102, 108, 111, 103, 0, 0, 0, 0, 0, 0, 0, 5, 0, 2, 97, 98]⟩) (by simp only [execOp, f31, e31]; go_simp) rfl
    · intro a v c
      have e28 : a.eval (.tmp 28) = .string ⟨#[102, 108, 111, 103, 0, 0, 0, 0, 0, 0, 0, 5, 0, 2, 97, 98]⟩ := c.dep 3 _ 28 (by kernel_rfl) rfl rfl
      have e32 : a.eval (.tmp 32) = .string ⟨#[102, 108, 111, 103, 0, 0, 0, 0, 0, 0, 0, 5, 0, 2, 97, 98]⟩ := c.dep 7 _ 32 (by kernel_rfl) rfl rfl
      have f28 := (eval_opt a 28).trans e28
      have f32 := (eval_opt a 32).trans e32
      exact gval (.bool true) (by simp only [execOp, f28, f32, e28, e32]; go_simp) rfl
    · intro a v c
      have e27 : a.eval (.tmp 27) = .bool true := c.dep 2 _ 27 (by kernel_rfl) rfl rfl
      have e33 : a.eval (.tmp 33) = .bool true := c.dep 8 _ 33 (by kernel_rfl) rfl rfl
      have f27 := (eval_opt a 27).trans e27
      have f33 := (eval_opt a 33).trans e33
      exact gval (.bool true) (by simp only [execOp, f27, f33, e27, e33]; go_simp) rfl
    · intro a v c
      have e34 : a.eval (.tmp 34) = .bool true := c.dep 9 _ 34 (by kernel_rfl) rfl rfl
      have f34 := (eval_opt a 34).trans e34
      exact gval (.bool true) (by simp only [execOp, f34, e34]; go_simp) rfl
    · intro a v c
      have e5 : a.eval (.tmp 5) = .int .i64 0 := (c.off 5 (by kernel_rfl)).trans rfl
      have f5 := (eval_opt a 5).trans e5
      exact gval (.int .i64 0) (by simp only [execOp, f5, e5]; go_simp) rfl
    · intro a v c
      have e36 : a.eval (.tmp 36) = .int .i64 0 := c.dep 11 _ 36 (by kernel_rfl) rfl rfl
      have f36 := (eval_opt a 36).trans e36
      exact gval (.bool true) (by simp only [execOp, f36, e36]; go_simp) rfl
    · intro a v c
      have e35 : a.eval (.tmp 35) = .bool true := c.dep 10 _ 35 (by kernel_rfl) rfl rfl
      have e37 : a.eval (.tmp 37) = .bool true := c.dep 12 _ 37 (by kernel_rfl) rfl rfl
      have f35 := (eval_opt a 35).trans e35
      have f37 := (eval_opt a 37).trans e37
      exact gval (.bool true) (by simp only [execOp, f35, f37, e35, e37]; go_simp) rfl
    · intro a v c
      have e38 : a.eval (.tmp 38) = .bool true := c.dep 13 _ 38 (by kernel_rfl) rfl rfl
      have f38 := (eval_opt a 38).trans e38
      exact gval (.bool true) (by simp only [execOp, f38, e38]; go_simp) rfl
    · intro a v c
      have e4 : a.eval (.tmp 4) = .slice (some ⟨gD, 0, none⟩) 1 c2 := (c.off 4 (by kernel_rfl)).trans rfl
      have f4 := (eval_opt a 4).trans e4
      exact gval (.slice (some ⟨gD, 0, none⟩) 1 c2) (by simp only [execOp, f4, e4]; go_simp) rfl
    · intro a v c
      have e40 : a.eval (.tmp 40) = .slice (some ⟨gD, 0, none⟩) 1 c2 := c.dep 15 _ 40 (by kernel_rfl) rfl rfl
      have f40 := (eval_opt a 40).trans e40
      exact gval (.int .i64 1) (by simp only [execOp, f40, e40]; go_simp) rfl
    · intro a v c
      have e41 : a.eval (.tmp 41) = .int .i64 1 := c.dep 16 _ 41 (by kernel_rfl) rfl rfl
      have f41 := (eval_opt a 41).trans e41
      exact gval (.bool true) (by simp only [execOp, f41, e41]; go_simp) rfl
    · intro a v c
      have e39 : a.eval (.tmp 39) = .bool true := c.dep 14 _ 39 (by kernel_rfl) rfl rfl
      have e42 : a.eval (.tmp 42) = .bool true := c.dep 17 _ 42 (by kernel_rfl) rfl rfl
      have f39 := (eval_opt a 39).trans e39
      have f42 := (eval_opt a 42).trans e42
      exact gval (.bool true) (by simp only [execOp, f39, f42, e39, e42]; go_simp) rfl
    · intro a v c
      have e43 : a.eval (.tmp 43) = .bool true := c.dep 18 _ 43 (by kernel_rfl) rfl rfl
      have f43 := (eval_opt a 43).trans e43
      exact gval (.bool true) (by simp only [execOp, f43, e43]; go_simp) rfl
    · intro a v c
      have e4 : a.eval (.tmp 4) = .slice (some ⟨gD, 0, none⟩) 1 c2 := (c.off 4 (by kernel_rfl)).trans rfl
      have f4 := (eval_opt a 4).trans e4
      exact gval (.slice (some ⟨gD, 0, none⟩) 1 c2) (by simp only [execOp, f4, e4]; go_simp) rfl
    · intro a v c
      have e45 : a.eval (.tmp 45) = .slice (some ⟨gD, 0, none⟩) 1 c2 := c.dep 20 _ 45 (by kernel_rfl) rfl rfl
      have f45 := (eval_opt a 45).trans e45
      exact gval (.pointer (some ⟨gD, 0, none⟩)) (by simp only [execOp, f45, e45]; go_simp) rfl
    · intro a v c
      have e46 : a.eval (.tmp 46) = .pointer (some ⟨gD, 0, none⟩) := c.dep 21 _ 46 (by kernel_rfl) rfl rfl
      have f46 := (eval_opt a 46).trans e46
      have bb : Below w3.heap.size w3 v := Below.trans (Below.drew (Below.refl _ _)) c.below
      have q0 := (bb.cell (p := ⟨gD, 0, none⟩) zD).trans qD.1; have q1 := (bb.cell (p := ⟨gD, 1, none⟩) zD).trans qD.2
      exact gval (.agg #[.int .u64 5, .string ⟨#[97, 98]⟩]) (by simp only [execOp, f46, e46]; go_simp) rfl
    · intro a v c
      have e1 : a.eval (.tmp 1) = .slice (some ⟨w.heap.size, 0, none⟩) 1 1 := (c.off 1 (by kernel_rfl)).trans rfl
      have f1 := (eval_opt a 1).trans e1
      exact gval (.slice (some ⟨w.heap.size, 0, none⟩) 1 1) (by simp only [execOp, f1, e1]; go_simp) rfl
    · intro a v c
      have e48 : a.eval (.tmp 48) = .slice (some ⟨w.heap.size, 0, none⟩) 1 1 := c.dep 23 _ 48 (by kernel_rfl) rfl rfl
      have f48 := (eval_opt a 48).trans e48
      exact gval (.pointer (some ⟨w.heap.size, 0, none⟩)) (by simp only [execOp, f48, e48]; go_simp) rfl
    · intro a v c
      have e49 : a.eval (.tmp 49) = .pointer (some ⟨w.heap.size, 0, none⟩) := c.dep 24 _ 49 (by kernel_rfl) rfl rfl
      have f49 := (eval_opt a 49).trans e49
      have bb : Below w3.heap.size w3 v := Below.trans (Below.drew (Below.refl _ _)) c.below
      have kA := A3.below bb A3.size; have cA := kA.cell
      exact gval (.agg #[.int .u64 5, .string ⟨#[97, 98]⟩]) (by simp only [execOp, f49, e49]; go_simp) rfl
    · intro a v c
      have e47 : a.eval (.tmp 47) = .agg #[.int .u64 5, .string ⟨#[97, 98]⟩] := c.dep 22 _ 47 (by kernel_rfl) rfl rfl
      have e50 : a.eval (.tmp 50) = .agg #[.int .u64 5, .string ⟨#[97, 98]⟩] := c.dep 25 _ 50 (by kernel_rfl) rfl rfl
      have f47 := (eval_opt a 47).trans e47
      have f50 := (eval_opt a 50).trans e50
      have bb : Below w3.heap.size w3 v := Below.trans (Below.drew (Below.refl _ _)) c.below
      have q1 := frameq v
      exact gval (.bool true) (by simp only [execOp, f47, f50, e47, e50]; go_simp) rfl
    · intro a v c
      have e44 : a.eval (.tmp 44) = .bool true := c.dep 19 _ 44 (by kernel_rfl) rfl rfl
      have e51 : a.eval (.tmp 51) = .bool true := c.dep 26 _ 51 (by kernel_rfl) rfl rfl
      have f44 := (eval_opt a 44).trans e44
      have f51 := (eval_opt a 51).trans e51
      exact gval (.bool true) (by simp only [execOp, f44, f51, e44, e51]; go_simp) rfl
    · intro a v c
      have e52 : a.eval (.tmp 52) = .bool true := c.dep 27 _ 52 (by kernel_rfl) rfl rfl
      have f52 := (eval_opt a 52).trans e52
      exact gval (.bool true) (by simp only [execOp, f52, e52]; go_simp) rfl
    · intro a v c
      have e7 : a.eval (.tmp 7) = .int .i64 0 := (c.off 7 (by kernel_rfl)).trans rfl
      have f7 := (eval_opt a 7).trans e7
      exact gval (.int .i64 0) (by simp only [execOp, f7, e7]; go_simp) rfl
    · intro a v c
      have e54 : a.eval (.tmp 54) = .int .i64 0 := c.dep 29 _ 54 (by kernel_rfl) rfl rfl
      have f54 := (eval_opt a 54).trans e54
      exact gval (.bool true) (by simp only [execOp, f54, e54]; go_simp) rfl
    · intro a v c
      have e53 : a.eval (.tmp 53) = .bool true := c.dep 28 _ 53 (by kernel_rfl) rfl rfl
      have e55 : a.eval (.tmp 55) = .bool true := c.dep 30 _ 55 (by kernel_rfl) rfl rfl
      have f53 := (eval_opt a 53).trans e53
      have f55 := (eval_opt a 55).trans e55
      exact gval (.bool true) (by simp only [execOp, f53, f55, e53, e55]; go_simp) rfl
    · intro a v c
      have e56 : a.eval (.tmp 56) = .bool true := c.dep 31 _ 56 (by kernel_rfl) rfl rfl
      have f56 := (eval_opt a 56).trans e56
      exact gval (.bool true) (by simp only [execOp, f56, e56]; go_simp) rfl
    · intro a v c
      have e6 : a.eval (.tmp 6) = .slice (some ⟨gO, 0, none⟩) 2 c3 := (c.off 6 (by kernel_rfl)).trans rfl
      have f6 := (eval_opt a 6).trans e6
      exact gval (.slice (some ⟨gO, 0, none⟩) 2 c3) (by simp only [execOp, f6, e6]; go_simp) rfl
    · intro a v c
      have e58 : a.eval (.tmp 58) = .slice (some ⟨gO, 0, none⟩) 2 c3 := c.dep 33 _ 58 (by kernel_rfl) rfl rfl
      have f58 := (eval_opt a 58).trans e58
      exact gval (.int .i64 2) (by simp only [execOp, f58, e58]; go_simp) rfl
    · intro a v c
      have e59 : a.eval (.tmp 59) = .int .i64 2 := c.dep 34 _ 59 (by kernel_rfl) rfl rfl
      have f59 := (eval_opt a 59).trans e59
      exact gval (.bool true) (by simp only [execOp, f59, e59]; go_simp) rfl
    · intro a v c
      have e57 : a.eval (.tmp 57) = .bool true := c.dep 32 _ 57 (by kernel_rfl) rfl rfl
      have e60 : a.eval (.tmp 60) = .bool true := c.dep 35 _ 60 (by kernel_rfl) rfl rfl
      have f57 := (eval_opt a 57).trans e57
      have f60 := (eval_opt a 60).trans e60
      exact gval (.bool true) (by simp only [execOp, f57, f60, e57, e60]; go_simp) rfl
    · intro a v c
      have e61 : a.eval (.tmp 61) = .bool true := c.dep 36 _ 61 (by kernel_rfl) rfl rfl
      have f61 := (eval_opt a 61).trans e61
      exact gval (.bool true) (by simp only [execOp, f61, e61]; go_simp) rfl
    · intro a v c
      have e6 : a.eval (.tmp 6) = .slice (some ⟨gO, 0, none⟩) 2 c3 := (c.off 6 (by kernel_rfl)).trans rfl
      have f6 := (eval_opt a 6).trans e6
      exact gval (.slice (some ⟨gO, 0, none⟩) 2 c3) (by simp only [execOp, f6, e6]; go_simp) rfl
    · intro a v c
      have e63 : a.eval (.tmp 63) = .slice (some ⟨gO, 0, none⟩) 2 c3 := c.dep 38 _ 63 (by kernel_rfl) rfl rfl
      have f63 := (eval_opt a 63).trans e63
      exact gval (.pointer (some ⟨gO, 0, none⟩)) (by simp only [execOp, f63, e63]; go_simp) rfl
    · intro a v c
      have e64 : a.eval (.tmp 64) = .pointer (some ⟨gO, 0, none⟩) := c.dep 39 _ 64 (by kernel_rfl) rfl rfl
      have f64 := (eval_opt a 64).trans e64
      exact gval (.pointer (some ⟨gO, 9, none⟩)) (by simp only [execOp, f64, e64]; go_simp) rfl
    · intro a v c
      have e65 : a.eval (.tmp 65) = .pointer (some ⟨gO, 9, none⟩) := c.dep 40 _ 65 (by kernel_rfl) rfl rfl
      have f65 := (eval_opt a 65).trans e65
      have bb : Below w3.heap.size w3 v := Below.trans (Below.drew (Below.refl _ _)) c.below
      have q0 := (bb.cell (p := ⟨gO, 9, none⟩) zO).trans qO0
      exact gval (.int .u64 5) (by simp only [execOp, f65, e65]; go_simp) rfl
    · intro a v c
      have e66 : a.eval (.tmp 66) = .int .u64 5 := c.dep 41 _ 66 (by kernel_rfl) rfl rfl
      have f66 := (eval_opt a 66).trans e66
      exact gval (.bool true) (by simp only [execOp, f66, e66]; go_simp) rfl
    · intro a v c
      have e62 : a.eval (.tmp 62) = .bool true := c.dep 37 _ 62 (by kernel_rfl) rfl rfl
      have e67 : a.eval (.tmp 67) = .bool true := c.dep 42 _ 67 (by kernel_rfl) rfl rfl
      have f62 := (eval_opt a 62).trans e62
      have f67 := (eval_opt a 67).trans e67
      exact gval (.bool true) (by simp only [execOp, f62, f67, e62, e67]; go_simp) rfl
    · intro a v c
      have e68 : a.eval (.tmp 68) = .bool true := c.dep 43 _ 68 (by kernel_rfl) rfl rfl
      have f68 := (eval_opt a 68).trans e68
      exact gval (.bool true) (by simp only [execOp, f68, e68]; go_simp) rfl
    · intro a v c
      have e6 : a.eval (.tmp 6) = .slice (some ⟨gO, 0, none⟩) 2 c3 := (c.off 6 (by kernel_rfl)).trans rfl
      have f6 := (eval_opt a 6).trans e6
      exact gval (.slice (some ⟨gO, 0, none⟩) 2 c3) (by simp only [execOp, f6, e6]; go_simp) rfl
    · intro a v c
      have e70 : a.eval (.tmp 70) = .slice (some ⟨gO, 0, none⟩) 2 c3 := c.dep 45 _ 70 (by kernel_rfl) rfl rfl
      have f70 := (eval_opt a 70).trans e70
      exact gval (.pointer (some ⟨gO, 10, none⟩)) (by simp only [execOp, f70, e70]; go_simp) rfl
    · intro a v c
      have e71 : a.eval (.tmp 71) = .pointer (some ⟨gO, 10, none⟩) := c.dep 46 _ 71 (by kernel_rfl) rfl rfl
      have f71 := (eval_opt a 71).trans e71
      exact gval (.pointer (some ⟨gO, 13, none⟩)) (by simp only [execOp, f71, e71]; go_simp) rfl
    · intro a v c
      have e72 : a.eval (.tmp 72) = .pointer (some ⟨gO, 13, none⟩) := c.dep 47 _ 72 (by kernel_rfl) rfl rfl
      have f72 := (eval_opt a 72).trans e72
      exact gval (.pointer (some ⟨gO, 14, none⟩)) (by simp only [execOp, f72, e72]; go_simp) rfl
    · intro a v c
      have e73 : a.eval (.tmp 73) = .pointer (some ⟨gO, 14, none⟩) := c.dep 48 _ 73 (by kernel_rfl) rfl rfl
      have f73 := (eval_opt a 73).trans e73
      have bb : Below w3.heap.size w3 v := Below.trans (Below.drew (Below.refl _ _)) c.below
      have q0 := (bb.cell (p := ⟨gO, 14, none⟩) zO).trans qO1
      exact gval (.int .i64 2) (by simp only [execOp, f73, e73]; go_simp) rfl
    · intro a v c
      have e74 : a.eval (.tmp 74) = .int .i64 2 := c.dep 49 _ 74 (by kernel_rfl) rfl rfl
      have f74 := (eval_opt a 74).trans e74
      exact gval (.bool true) (by simp only [execOp, f74, e74]; go_simp) rfl
    · intro a v c
      have e69 : a.eval (.tmp 69) = .bool true := c.dep 44 _ 69 (by kernel_rfl) rfl rfl
      have e75 : a.eval (.tmp 75) = .bool true := c.dep 50 _ 75 (by kernel_rfl) rfl rfl
      have f69 := (eval_opt a 69).trans e69
      have f75 := (eval_opt a 75).trans e75
      exact gval (.bool true) (by simp only [execOp, f69, f75, e69, e75]; go_simp) rfl
    · intro a v c
      have e76 : a.eval (.tmp 76) = .bool true := c.dep 51 _ 76 (by kernel_rfl) rfl rfl
      have f76 := (eval_opt a 76).trans e76
      exact gval (.bool true) (by simp only [execOp, f76, e76]; go_simp) rfl
  intro a v hb hd ho hs hf
  have e0 : a.eval (.tmp 0) = .bool true := hd 52 _ 0 rfl rfl
  have gG := g3.trans (hb.mono g3.size)
  rw [frame_eta a 77 hs, hf]
  simp only [List.range, List.range.loop, List.map_cons, List.map_nil, e0, ho 1 (by kernel_rfl), ho 2 (by kernel_rfl), ho 3 (by kernel_rfl), ho 4 (by kernel_rfl), ho 5 (by kernel_rfl), ho 6 (by kernel_rfl), ho 7 (by kernel_rfl), ho 8 (by kernel_rfl), ho 9 (by kernel_rfl), ho 10 (by kernel_rfl), ho 11 (by kernel_rfl), ho 12 (by kernel_rfl), ho 13 (by kernel_rfl), ho 14 (by kernel_rfl), ho 15 (by kernel_rfl), ho 16 (by kernel_rfl), ho 17 (by kernel_rfl), ho 18 (by kernel_rfl), ho 19 (by kernel_rfl), ho 20 (by kernel_rfl), ho 21 (by kernel_rfl), ho 22 (by kernel_rfl), ho 23 (by kernel_rfl), ho 24 (by kernel_rfl)]
  clear hd ho hf hs hb e0
  generalize a.eval (.tmp 25) = u25
  generalize a.eval (.tmp 26) = u26
  generalize a.eval (.tmp 27) = u27
  generalize a.eval (.tmp 28) = u28
  generalize a.eval (.tmp 29) = u29
  generalize a.eval (.tmp 30) = u30
  generalize a.eval (.tmp 31) = u31
  generalize a.eval (.tmp 32) = u32
  generalize a.eval (.tmp 33) = u33
  generalize a.eval (.tmp 34) = u34
  generalize a.eval (.tmp 35) = u35
  generalize a.eval (.tmp 36) = u36
  generalize a.eval (.tmp 37) = u37
  generalize a.eval (.tmp 38) = u38
  generalize a.eval (.tmp 39) = u39
  generalize a.eval (.tmp 40) = u40
  generalize a.eval (.tmp 41) = u41
  generalize a.eval (.tmp 42) = u42
  generalize a.eval (.tmp 43) = u43
  generalize a.eval (.tmp 44) = u44
  generalize a.eval (.tmp 45) = u45
  generalize a.eval (.tmp 46) = u46
  generalize a.eval (.tmp 47) = u47
  generalize a.eval (.tmp 48) = u48
  generalize a.eval (.tmp 49) = u49
  generalize a.eval (.tmp 50) = u50
  generalize a.eval (.tmp 51) = u51
  generalize a.eval (.tmp 52) = u52
  generalize a.eval (.tmp 53) = u53
  generalize a.eval (.tmp 54) = u54
  generalize a.eval (.tmp 55) = u55
  generalize a.eval (.tmp 56) = u56
  generalize a.eval (.tmp 57) = u57
  generalize a.eval (.tmp 58) = u58
  generalize a.eval (.tmp 59) = u59
  generalize a.eval (.tmp 60) = u60
  generalize a.eval (.tmp 61) = u61
  generalize a.eval (.tmp 62) = u62
  generalize a.eval (.tmp 63) = u63
  generalize a.eval (.tmp 64) = u64
  generalize a.eval (.tmp 65) = u65
  generalize a.eval (.tmp 66) = u66
  generalize a.eval (.tmp 67) = u67
  generalize a.eval (.tmp 68) = u68
  generalize a.eval (.tmp 69) = u69
  generalize a.eval (.tmp 70) = u70
  generalize a.eval (.tmp 71) = u71
  generalize a.eval (.tmp 72) = u72
  generalize a.eval (.tmp 73) = u73
  generalize a.eval (.tmp 74) = u74
  generalize a.eval (.tmp 75) = u75
  generalize a.eval (.tmp 76) = u76
  clear a
  go_simp
  go_wp2
  go_ret
  exact ⟨rfl, gG⟩
end Go.Proofs.Ytljpiofpfankoaa
