/-
  Captures: the reference's Decode. Conditions: a string that is not too long.
-/
import Derived.Test.YtljpiofpfankoaaCpQ
namespace Go.Proofs.Ytljpiofpfankoaa
open Go.RowKit Go.Sort
set_option linter.unusedVariables false
set_option linter.unusedSimpArgs false
theorem decG_fuel : ∀ (n m : Nat) (l : List Int) (la : Int) (o : List FM), l.length < n → l.length < m → decG n l la o = decG m l la o := by
  intro n
  induction n with
  | zero => intro m l la o h; omega
  | succ n ih =>
    intro m l la o h1 h2
    cases m with
    | zero => omega
    | succ m =>
      unfold decG
      by_cases a0 : l.length = 0
      · rw [if_pos a0, if_pos a0]
      rw [if_neg a0, if_neg a0]
      by_cases a1 : o.length = 1000
      · rw [if_pos a1, if_pos a1]
      rw [if_neg a1, if_neg a1]
      by_cases a2 : cutE l la ≠ 0
      · rw [if_pos a2, if_pos a2]
      rw [if_neg a2, if_neg a2]
      have := cutR_len (Decidable.not_not.1 a2)
      exact ih m _ _ _ (by omega) (by omega)
theorem HoldRf.setCell {w : World} {base : Nat} {v : Value} {l : List FM} (h : HoldRf w base v l) (p : Addr) (x : Value) (hp : p.block < base) : HoldRf (w.setCell p x) base v l := by
  obtain ⟨h1, h2⟩ := h
  refine ⟨h1, ?_⟩
  rcases h2 with h2 | ⟨g, cap, cur, e, hg, hh, r⟩
  · exact .inl h2
  · exact .inr ⟨g, cap, cur, e, hg, (Below.heap_setCell _ _ _ _ (by omega)).trans hh, r⟩
set_option maxRecDepth 100000 in
set_option maxHeartbeats 4000000 in
theorem rDec_3 (l : List Int) (w : World) (h : l.length < 4) :
    Calls Try.prog 20 #[SV l] w fun x w' => x = .returned (.agg #[.slice none 0 0, .int .i64 3]) ∧ Below w.heap.size w w' := by
  have ks := sv_size
  have d0 : decide ((l.length : Int) < 4) = true := decide_eq_true (by omega)
  go_enter Try.func20, Try.ntmps20
  go_wp2
  refine bp_forget (fun v => (Below w.heap.size w v ∧ Blk v (w.heap.size) #[.slice none 0 0, .int .i64 3] 36)) ⟨by (repeat' (first | (with_reducible (first | exact Below.refl _ _ | assumption | refine below_drewN ?_ _ | refine Below.drew ?_ | refine Below.alloc ?_ ?_ _ | refine Below.setCell ?_ ?_ _)) | go_size)), by (repeat' (first | (with_reducible (first | assumption | exact Blk.alloc_new _ _ _ (by first | rfl | (simp; done) | omega) | apply Blk.drewN | apply Blk.drew | apply Blk.alloc_old | apply Blk.set_same | apply Blk.set_other)) | (show (_ : Nat) ≠ _; first | omega | (simp; done) | (simp; omega)) | ((simp only [List.setIfInBounds_toArray, List.set_cons_succ, List.set_cons_zero]); (with_reducible exact rfl)) | (with_reducible exact rfl) | (show (_ : Array Value) = _; exact rfl)))⟩ ?_
  rintro v ⟨gv, Bv⟩
  refine bodyPost_ret (v := .agg #[.slice none 0 0, .int .i64 3]) ?_ ?_ ?_
  · exact results_blk (w.heap.size) #[.slice none 0 0, .int .i64 3] 36 _ _ _ Try.results20 (by rfl) Bv Try.underlying36 rfl (by kernel_rfl)
  · rfl
  · exact ⟨rfl, gv⟩
set_option maxRecDepth 100000 in
set_option maxHeartbeats 4000000 in
theorem rDec_4 (l : List Int) (w : World) (hl : Byt l) (h4 : 4 ≤ l.length) (hb : l.length ≤ 4611686018427387904) (hf : l.take 4 ≠ flog) :
    Calls Try.prog 20 #[SV l] w fun x w' => x = .returned (.agg #[.slice none 0 0, .int .i64 4]) ∧ Below w.heap.size w w' := by
  have ks := sv_size
  have kx := strOf_sub
  have kf := flog_str
  have d0 : decide ((l.length : Int) < 4) = false := decide_eq_false (by omega)
  have d0n : decide (l.length < 4) = false := decide_eq_false (by omega)
  have d1 : decide ((4 : Int) ≤ (l.length : Int)) = true := decide_eq_true (by omega)
  have d1n : decide (4 ≤ l.length) = true := decide_eq_true h4
  have h4i : (4 : Int) ≤ (l.length : Int) := by omega
  have q1 := strneb (fun x hx => hl x (List.mem_of_mem_take hx)) flog_byt hf
  have q2 : (strOfNums flog).toList = [102, 108, 111, 103] := by rw [ByteArray.toList_eq]; rfl
  rw [q2] at q1
  go_enter Try.func20, Try.ntmps20
  go_wp2
  refine bp_forget (fun v => (Below w.heap.size w v ∧ Blk v (w.heap.size) #[.slice none 0 0, .int .i64 4] 36)) ⟨by (repeat' (first | (with_reducible (first | exact Below.refl _ _ | assumption | refine below_drewN ?_ _ | refine Below.drew ?_ | refine Below.alloc ?_ ?_ _ | refine Below.setCell ?_ ?_ _)) | go_size)), by (repeat' (first | (with_reducible (first | assumption | exact Blk.alloc_new _ _ _ (by first | rfl | (simp; done) | omega) | apply Blk.drewN | apply Blk.drew | apply Blk.alloc_old | apply Blk.set_same | apply Blk.set_other)) | (show (_ : Nat) ≠ _; first | omega | (simp; done) | (simp; omega)) | ((simp only [List.setIfInBounds_toArray, List.set_cons_succ, List.set_cons_zero]); (with_reducible exact rfl)) | (with_reducible exact rfl) | (show (_ : Array Value) = _; exact rfl)))⟩ ?_
  rintro v ⟨gv, Bv⟩
  refine bodyPost_ret (v := .agg #[.slice none 0 0, .int .i64 4]) ?_ ?_ ?_
  · exact results_blk (w.heap.size) #[.slice none 0 0, .int .i64 4] 36 _ _ _ Try.results20 (by rfl) Bv Try.underlying36 rfl (by kernel_rfl)
  · rfl
  · exact ⟨rfl, gv⟩
set_option maxRecDepth 100000 in
set_option maxHeartbeats 8000000 in
theorem rDec_ok (l : List Int) (e : Int) (F : List FM) (w : World) (hl : Byt l) (h4 : 4 ≤ l.length) (hb : l.length ≤ 4611686018427387904) (hf : l.take 4 = flog) (he : decG ((l.drop 4).length + 1) (l.drop 4) 0 [] = (e, F)) :
    Calls Try.prog 20 #[SV l] w fun x w' => ∃ v, x = .returned (.agg #[v, .int .i64 e]) ∧ (e = 0 → HoldRf w' (w.heap.size + 1) v F) ∧ (e ≠ 0 → v = .slice none 0 0) ∧ Below w.heap.size w w' := by
  have ks := sv_size
  have kx := strOf_sub
  have d0 : decide ((l.length : Int) < 4) = false := decide_eq_false (by omega)
  have d0n : decide (l.length < 4) = false := decide_eq_false (by omega)
  have d1 : decide ((4 : Int) ≤ (l.length : Int)) = true := decide_eq_true (by omega)
  have d1n : decide (4 ≤ l.length) = true := decide_eq_true h4
  have h4i : (4 : Int) ≤ (l.length : Int) := by omega
  have q2 : (strOfNums flog).toList = [102, 108, 111, 103] := by rw [ByteArray.toList_eq]; rfl
  have q1 : ((strOfNums (List.take 4 l)).toList == [102, 108, 111, 103]) = true := by rw [hf, q2]; rfl
  have HL := hide hl; have HE := hide he; have HF := hide hf
  clear hl he hf
  go_enter Try.func20, Try.ntmps20
  go_wp2
  go_loopw [3, 4, 5] (fun o i la wr => ∃ (k : Nat) (last : Int) (out : List FM), i = .int .i64 k ∧ la = .int .u64 last ∧ (4 ≤ k ∧ k ≤ l.length) ∧ (0 ≤ last ∧ last ≤ 18446744073709551615) ∧ out.length ≤ 1000 ∧ HoldRf wr (w.heap.size + 1) o out ∧ Blk wr w.heap.size #[.slice none 0 0, .int .i64 0] 36 ∧ Below w.heap.size w wr ∧ Hid (decG ((l.drop k).length + 1) (l.drop k) last out = (e, F))) (fun _ i _ _ => l.length - (intOf i).toNat)
  case atStart => exact ⟨4, 0, [], rfl, rfl, by omega, by omega, by simp, HoldRf.nil _ _, by (repeat' (first | (with_reducible (first | assumption | exact Blk.alloc_new _ _ _ (by first | rfl | (simp; done) | omega) | apply Blk.drewN | apply Blk.drew | apply Blk.alloc_old | apply Blk.set_same | apply Blk.set_other)) | (show (_ : Nat) ≠ _; first | omega | (simp; done) | (simp; omega)) | ((simp only [List.setIfInBounds_toArray, List.set_cons_succ, List.set_cons_zero]); (with_reducible exact rfl)) | (with_reducible exact rfl) | (show (_ : Array Value) = _; exact rfl))), by (repeat' (first | (with_reducible (first | exact Below.refl _ _ | assumption | refine below_drewN ?_ _ | refine Below.drew ?_ | refine Below.alloc ?_ ?_ _ | refine Below.setCell ?_ ?_ _)) | go_size)), HE⟩
  case round =>
    obtain ⟨k, last, out, rfl, rfl, hk, hla, hol, H0, R0, g0, hcc⟩ := hrel
    have hl0 := g0.size
    have hst := hcc.out
    have cR := R0.cell; have fR := R0.frozen; have zR := R0.size
    have hdl : (l.drop k).length = l.length - k := List.length_drop
    unfold decG at hst
    by_cases c0 : (l.drop k).length = 0
    · rw [if_pos c0] at hst
      obtain ⟨rfl, rfl⟩ := Prod.mk.inj hst
      have hki : ¬ (k : Int) < (l.length : Int) := by omega
      have hkd : decide ((k : Int) < (l.length : Int)) = false := decide_eq_false hki
      have hkdn : decide (k < l.length) = false := decide_eq_false (by omega)
      clear hcc hst
      obtain ⟨oa, oc, rfl⟩ := H0.slice
      go_wp2
      refine bp_forget (fun v => (Below w.heap.size w v ∧ Blk v (w.heap.size) #[.slice oa out.length oc, .int .i64 0] 36) ∧ HoldRf v (w.heap.size + 1) (.slice oa out.length oc) out) ⟨⟨by (repeat' (first | (with_reducible (first | exact Below.refl _ _ | assumption | refine below_drewN ?_ _ | refine Below.drew ?_ | refine Below.alloc ?_ ?_ _ | refine Below.setCell ?_ ?_ _)) | go_size)), by (repeat' (first | (with_reducible (first | assumption | exact Blk.alloc_new _ _ _ (by first | rfl | (simp; done) | omega) | apply Blk.drewN | apply Blk.drew | apply Blk.alloc_old | apply Blk.set_same | apply Blk.set_other)) | (show (_ : Nat) ≠ _; first | omega | (simp; done) | (simp; omega)) | ((simp only [List.setIfInBounds_toArray, List.set_cons_succ, List.set_cons_zero]); (with_reducible exact rfl)) | (with_reducible exact rfl) | (show (_ : Array Value) = _; exact rfl)))⟩, by first | assumption | (repeat (refine HoldRf.setCell ?_ _ _ (by show w.heap.size < _; omega))); exact H0⟩ ?_
      rintro v ⟨⟨gv, Bv⟩, Hv⟩
      refine bodyPost_ret (v := .agg #[.slice oa out.length oc, .int .i64 0]) ?_ ?_ ?_
      · exact results_blk (w.heap.size) #[.slice oa out.length oc, .int .i64 0] 36 _ _ _ Try.results20 (by rfl) Bv Try.underlying36 rfl (by kernel_rfl)
      · rfl
      · exact ⟨_, rfl, Hv, gv⟩
    rw [if_neg c0] at hst
    have hki : (k : Int) < (l.length : Int) := by omega
    have hkd : decide ((k : Int) < (l.length : Int)) = true := decide_eq_true hki
    have hkdn : decide (k < l.length) = true := decide_eq_true (by omega)
    obtain ⟨oa, oc, rfl⟩ := H0.slice
    by_cases c1 : out.length = 1000
    · rw [if_pos c1] at hst
      obtain ⟨rfl, rfl⟩ := Prod.mk.inj hst
      have d1 : ((out.length : Int) == 1000) = true := beq_iff_eq.2 (by omega)
      clear hcc hst
      go_wp2
      refine bp_forget (fun v => (Below w.heap.size w v ∧ Blk v (w.heap.size) #[.slice none 0 0, .int .i64 2] 36)) ⟨by (repeat' (first | (with_reducible (first | exact Below.refl _ _ | assumption | refine below_drewN ?_ _ | refine Below.drew ?_ | refine Below.alloc ?_ ?_ _ | refine Below.setCell ?_ ?_ _)) | go_size)), by (repeat' (first | (with_reducible (first | assumption | exact Blk.alloc_new _ _ _ (by first | rfl | (simp; done) | omega) | apply Blk.drewN | apply Blk.drew | apply Blk.alloc_old | apply Blk.set_same | apply Blk.set_other)) | (show (_ : Nat) ≠ _; first | omega | (simp; done) | (simp; omega)) | ((simp only [List.setIfInBounds_toArray, List.set_cons_succ, List.set_cons_zero]); (with_reducible exact rfl)) | (with_reducible exact rfl) | (show (_ : Array Value) = _; exact rfl)))⟩ ?_
      rintro v ⟨gv, Bv⟩
      refine bodyPost_ret (v := .agg #[.slice none 0 0, .int .i64 2]) ?_ ?_ ?_
      · exact results_blk (w.heap.size) #[.slice none 0 0, .int .i64 2] 36 _ _ _ Try.results20 (by rfl) Bv Try.underlying36 rfl (by kernel_rfl)
      · rfl
      · exact ⟨_, rfl, fun h => absurd h (by decide), fun _ => rfl, gv⟩
    rw [if_neg c1] at hst
    have d1 : ((out.length : Int) == 1000) = false := beq_eq_false_iff_ne.2 (by omega)
    have d1n : (out.length == 1000) = false := beq_eq_false_iff_ne.2 c1
    obtain ⟨nn, hn⟩ : ∃ n, hor ((l.drop k).drop 8) 2 = n := ⟨_, rfl⟩
    obtain ⟨tt, htt⟩ : ∃ x, hor (l.drop k) 8 = x := ⟨_, rfl⟩
    have hcE : cutE (l.drop k) last = if (l.drop k).length < 10 then 3 else if nn < 1 ∨ 16384 < nn then 26 else if ((l.drop k).length : Int) - 10 < nn then 3 else if tt < last ∨ 4611686018427387904 < tt then 27 else 0 := by unfold cutE; rw [hn, htt]
    have hdb : Byt (l.drop k) := fun x hx => HL.out x (List.mem_of_mem_drop hx)
    have hnr : 0 ≤ nn ∧ nn ≤ 65535 := by
      have := hor_rng (l := (l.drop k).drop 8) (fun x hx => hdb x (List.mem_of_mem_drop hx)) 2
      rw [hn] at this; omega
    have htr : 0 ≤ tt ∧ tt ≤ 18446744073709551615 := by
      have := hor_rng hdb 8
      rw [htt] at this; omega
    by_cases b1 : (l.drop k).length < 10
    · have he3 : cutE (l.drop k) last = 3 := by rw [hcE, if_pos b1]
      rw [he3, if_pos (by decide)] at hst
      obtain ⟨rfl, rfl⟩ := Prod.mk.inj hst
      have d2 : decide ((l.length : Int) - (k : Int) < 10) = true := decide_eq_true (by omega)
      clear hcc hst hcE hn htt he3
      go_wp2
      refine bp_forget (fun v => (Below w.heap.size w v ∧ Blk v (w.heap.size) #[.slice none 0 0, .int .i64 3] 36)) ⟨by (repeat' (first | (with_reducible (first | exact Below.refl _ _ | assumption | refine below_drewN ?_ _ | refine Below.drew ?_ | refine Below.alloc ?_ ?_ _ | refine Below.setCell ?_ ?_ _)) | go_size)), by (repeat' (first | (with_reducible (first | assumption | exact Blk.alloc_new _ _ _ (by first | rfl | (simp; done) | omega) | apply Blk.drewN | apply Blk.drew | apply Blk.alloc_old | apply Blk.set_same | apply Blk.set_other)) | (show (_ : Nat) ≠ _; first | omega | (simp; done) | (simp; omega)) | ((simp only [List.setIfInBounds_toArray, List.set_cons_succ, List.set_cons_zero]); (with_reducible exact rfl)) | (with_reducible exact rfl) | (show (_ : Array Value) = _; exact rfl)))⟩ ?_
      rintro v ⟨gv, Bv⟩
      refine bodyPost_ret (v := .agg #[.slice none 0 0, .int .i64 3]) ?_ ?_ ?_
      · exact results_blk (w.heap.size) #[.slice none 0 0, .int .i64 3] 36 _ _ _ Try.results20 (by rfl) Bv Try.underlying36 rfl (by kernel_rfl)
      · rfl
      · exact ⟨_, rfl, fun h => absurd h (by decide), fun _ => rfl, gv⟩
    rw [if_neg b1] at hcE
    have d2 : decide ((l.length : Int) - (k : Int) < 10) = false := decide_eq_false (by omega)
    have KN := hide (fun v => rAt l ((k : Int) + 8) 2 (k + 8) 2 nn v (by omega) rfl HL.out (by omega) (by decide) hb (by rw [← hn, List.drop_drop]))
    have KT := hide (fun v => rAt l (k : Int) 8 k 8 tt v rfl rfl HL.out (by omega) (by decide) hb htt)
    have hwn : IntKind.i64.wrap nn = nn := IntWalk.i64_in _ ⟨by omega, by omega⟩
    have hw8 : IntKind.i64.wrap ((k : Int) + 8) = (k : Int) + 8 := IntWalk.i64_in _ ⟨by omega, by omega⟩
    clear hdb
    by_cases b2 : nn < 1
    · have he3 : cutE (l.drop k) last = 26 := by rw [hcE, if_pos (.inl b2)]
      rw [he3, if_pos (by decide)] at hst
      obtain ⟨rfl, rfl⟩ := Prod.mk.inj hst
      have d3 : decide (nn < 1) = true := decide_eq_true b2
      clear hcc hst hcE hn htt he3
      go_wp2_with fail
      refine (KN.out _).mono ?_
      rintro e u1 ⟨rfl, rfl⟩
      go_wp2
      refine bp_forget (fun v => (Below w.heap.size w v ∧ Blk v (w.heap.size) #[.slice none 0 0, .int .i64 26] 36)) ⟨by (repeat' (first | (with_reducible (first | exact Below.refl _ _ | assumption | refine below_drewN ?_ _ | refine Below.drew ?_ | refine Below.alloc ?_ ?_ _ | refine Below.setCell ?_ ?_ _)) | go_size)), by (repeat' (first | (with_reducible (first | assumption | exact Blk.alloc_new _ _ _ (by first | rfl | (simp; done) | omega) | apply Blk.drewN | apply Blk.drew | apply Blk.alloc_old | apply Blk.set_same | apply Blk.set_other)) | (show (_ : Nat) ≠ _; first | omega | (simp; done) | (simp; omega)) | ((simp only [List.setIfInBounds_toArray, List.set_cons_succ, List.set_cons_zero]); (with_reducible exact rfl)) | (with_reducible exact rfl) | (show (_ : Array Value) = _; exact rfl)))⟩ ?_
      rintro v ⟨gv, Bv⟩
      refine bodyPost_ret (v := .agg #[.slice none 0 0, .int .i64 26]) ?_ ?_ ?_
      · exact results_blk (w.heap.size) #[.slice none 0 0, .int .i64 26] 36 _ _ _ Try.results20 (by rfl) Bv Try.underlying36 rfl (by kernel_rfl)
      · rfl
      · exact ⟨_, rfl, fun h => absurd h (by decide), fun _ => rfl, gv⟩
    have d3 : decide (nn < 1) = false := decide_eq_false b2
    by_cases b3 : 16384 < nn
    · have he3 : cutE (l.drop k) last = 26 := by rw [hcE, if_pos (.inr b3)]
      rw [he3, if_pos (by decide)] at hst
      obtain ⟨rfl, rfl⟩ := Prod.mk.inj hst
      have d4 : decide (16384 < nn) = true := decide_eq_true b3
      clear hcc hst hcE hn htt he3
      go_wp2_with fail
      refine (KN.out _).mono ?_
      rintro e u1 ⟨rfl, rfl⟩
      go_wp2
      refine bp_forget (fun v => (Below w.heap.size w v ∧ Blk v (w.heap.size) #[.slice none 0 0, .int .i64 26] 36)) ⟨by (repeat' (first | (with_reducible (first | exact Below.refl _ _ | assumption | refine below_drewN ?_ _ | refine Below.drew ?_ | refine Below.alloc ?_ ?_ _ | refine Below.setCell ?_ ?_ _)) | go_size)), by (repeat' (first | (with_reducible (first | assumption | exact Blk.alloc_new _ _ _ (by first | rfl | (simp; done) | omega) | apply Blk.drewN | apply Blk.drew | apply Blk.alloc_old | apply Blk.set_same | apply Blk.set_other)) | (show (_ : Nat) ≠ _; first | omega | (simp; done) | (simp; omega)) | ((simp only [List.setIfInBounds_toArray, List.set_cons_succ, List.set_cons_zero]); (with_reducible exact rfl)) | (with_reducible exact rfl) | (show (_ : Array Value) = _; exact rfl)))⟩ ?_
      rintro v ⟨gv, Bv⟩
      refine bodyPost_ret (v := .agg #[.slice none 0 0, .int .i64 26]) ?_ ?_ ?_
      · exact results_blk (w.heap.size) #[.slice none 0 0, .int .i64 26] 36 _ _ _ Try.results20 (by rfl) Bv Try.underlying36 rfl (by kernel_rfl)
      · rfl
      · exact ⟨_, rfl, fun h => absurd h (by decide), fun _ => rfl, gv⟩
    have d4 : decide (16384 < nn) = false := decide_eq_false b3
    rw [if_neg (by omega)] at hcE
    have hw10 : IntKind.i64.wrap ((l.length : Int) - (k : Int) - 10) = (l.length : Int) - (k : Int) - 10 := IntWalk.i64_in _ ⟨by omega, by omega⟩
    by_cases b4 : ((l.drop k).length : Int) - 10 < nn
    · have he3 : cutE (l.drop k) last = 3 := by rw [hcE, if_pos b4]
      rw [he3, if_pos (by decide)] at hst
      obtain ⟨rfl, rfl⟩ := Prod.mk.inj hst
      have d5 : decide ((l.length : Int) - (k : Int) - 10 < nn) = true := decide_eq_true (by omega)
      clear hcc hst hcE hn htt he3
      go_wp2_with fail
      refine (KN.out _).mono ?_
      rintro e u1 ⟨rfl, rfl⟩
      go_wp2
      refine bp_forget (fun v => (Below w.heap.size w v ∧ Blk v (w.heap.size) #[.slice none 0 0, .int .i64 3] 36)) ⟨by (repeat' (first | (with_reducible (first | exact Below.refl _ _ | assumption | refine below_drewN ?_ _ | refine Below.drew ?_ | refine Below.alloc ?_ ?_ _ | refine Below.setCell ?_ ?_ _)) | go_size)), by (repeat' (first | (with_reducible (first | assumption | exact Blk.alloc_new _ _ _ (by first | rfl | (simp; done) | omega) | apply Blk.drewN | apply Blk.drew | apply Blk.alloc_old | apply Blk.set_same | apply Blk.set_other)) | (show (_ : Nat) ≠ _; first | omega | (simp; done) | (simp; omega)) | ((simp only [List.setIfInBounds_toArray, List.set_cons_succ, List.set_cons_zero]); (with_reducible exact rfl)) | (with_reducible exact rfl) | (show (_ : Array Value) = _; exact rfl)))⟩ ?_
      rintro v ⟨gv, Bv⟩
      refine bodyPost_ret (v := .agg #[.slice none 0 0, .int .i64 3]) ?_ ?_ ?_
      · exact results_blk (w.heap.size) #[.slice none 0 0, .int .i64 3] 36 _ _ _ Try.results20 (by rfl) Bv Try.underlying36 rfl (by kernel_rfl)
      · rfl
      · exact ⟨_, rfl, fun h => absurd h (by decide), fun _ => rfl, gv⟩
    rw [if_neg b4] at hcE
    have d5 : decide ((l.length : Int) - (k : Int) - 10 < nn) = false := decide_eq_false (by omega)
    by_cases b5 : tt < last
    · have he3 : cutE (l.drop k) last = 27 := by rw [hcE, if_pos (.inl b5)]
      rw [he3, if_pos (by decide)] at hst
      obtain ⟨rfl, rfl⟩ := Prod.mk.inj hst
      have d6 : decide (tt < last) = true := decide_eq_true b5
      clear hcc hst hcE hn htt he3
      go_wp2_with fail
      refine (KN.out _).mono ?_
      rintro e u1 ⟨rfl, rfl⟩
      go_wp2_with fail
      refine (KT.out _).mono ?_
      rintro e u2 ⟨rfl, rfl⟩
      go_wp2
      refine bp_forget (fun v => (Below w.heap.size w v ∧ Blk v (w.heap.size) #[.slice none 0 0, .int .i64 27] 36)) ⟨by (repeat' (first | (with_reducible (first | exact Below.refl _ _ | assumption | refine below_drewN ?_ _ | refine Below.drew ?_ | refine Below.alloc ?_ ?_ _ | refine Below.setCell ?_ ?_ _)) | go_size)), by (repeat' (first | (with_reducible (first | assumption | exact Blk.alloc_new _ _ _ (by first | rfl | (simp; done) | omega) | apply Blk.drewN | apply Blk.drew | apply Blk.alloc_old | apply Blk.set_same | apply Blk.set_other)) | (show (_ : Nat) ≠ _; first | omega | (simp; done) | (simp; omega)) | ((simp only [List.setIfInBounds_toArray, List.set_cons_succ, List.set_cons_zero]); (with_reducible exact rfl)) | (with_reducible exact rfl) | (show (_ : Array Value) = _; exact rfl)))⟩ ?_
      rintro v ⟨gv, Bv⟩
      refine bodyPost_ret (v := .agg #[.slice none 0 0, .int .i64 27]) ?_ ?_ ?_
      · exact results_blk (w.heap.size) #[.slice none 0 0, .int .i64 27] 36 _ _ _ Try.results20 (by rfl) Bv Try.underlying36 rfl (by kernel_rfl)
      · rfl
      · exact ⟨_, rfl, fun h => absurd h (by decide), fun _ => rfl, gv⟩
    have d6 : decide (tt < last) = false := decide_eq_false b5
    by_cases b6 : 4611686018427387904 < tt
    · have he3 : cutE (l.drop k) last = 27 := by rw [hcE, if_pos (.inr b6)]
      rw [he3, if_pos (by decide)] at hst
      obtain ⟨rfl, rfl⟩ := Prod.mk.inj hst
      have d7 : decide (4611686018427387904 < tt) = true := decide_eq_true b6
      clear hcc hst hcE hn htt he3
      go_wp2_with fail
      refine (KN.out _).mono ?_
      rintro e u1 ⟨rfl, rfl⟩
      go_wp2_with fail
      refine (KT.out _).mono ?_
      rintro e u2 ⟨rfl, rfl⟩
      go_wp2
      refine bp_forget (fun v => (Below w.heap.size w v ∧ Blk v (w.heap.size) #[.slice none 0 0, .int .i64 27] 36)) ⟨by (repeat' (first | (with_reducible (first | exact Below.refl _ _ | assumption | refine below_drewN ?_ _ | refine Below.drew ?_ | refine Below.alloc ?_ ?_ _ | refine Below.setCell ?_ ?_ _)) | go_size)), by (repeat' (first | (with_reducible (first | assumption | exact Blk.alloc_new _ _ _ (by first | rfl | (simp; done) | omega) | apply Blk.drewN | apply Blk.drew | apply Blk.alloc_old | apply Blk.set_same | apply Blk.set_other)) | (show (_ : Nat) ≠ _; first | omega | (simp; done) | (simp; omega)) | ((simp only [List.setIfInBounds_toArray, List.set_cons_succ, List.set_cons_zero]); (with_reducible exact rfl)) | (with_reducible exact rfl) | (show (_ : Array Value) = _; exact rfl)))⟩ ?_
      rintro v ⟨gv, Bv⟩
      refine bodyPost_ret (v := .agg #[.slice none 0 0, .int .i64 27]) ?_ ?_ ?_
      · exact results_blk (w.heap.size) #[.slice none 0 0, .int .i64 27] 36 _ _ _ Try.results20 (by rfl) Bv Try.underlying36 rfl (by kernel_rfl)
      · rfl
      · exact ⟨_, rfl, fun h => absurd h (by decide), fun _ => rfl, gv⟩
    have d7 : decide (4611686018427387904 < tt) = false := decide_eq_false b6
    rw [if_neg (by omega)] at hcE
    rw [hcE, if_neg (by simp)] at hst
    obtain ⟨m, rfl⟩ : ∃ m : Nat, nn = (m : Int) := ⟨nn.toNat, by omega⟩
    obtain ⟨D, hD⟩ : ∃ x, cutD (l.drop k) = x := ⟨_, rfl⟩
    have hR : cutR (l.drop k) = l.drop (k + 10 + m) := by unfold cutR; rw [hn, List.drop_drop, List.drop_drop, Int.toNat_natCast, Nat.add_assoc]
    have hex : (strOfNums l).extract (k + 10) (k + 10 + m) = strOfNums D := by
      rw [strOf_sub, ← hD]; unfold cutD; rw [hn, List.drop_drop, Int.toNat_natCast, show k + 10 + m - (k + 10) = m by omega]
    rw [htt, hD, hR] at hst
    have hfuel := decG_fuel ((l.drop k).length) ((l.drop (k + 10 + m)).length + 1) (l.drop (k + 10 + m)) tt (out ++ [⟨tt, D⟩]) (by rw [List.length_drop, hdl]; omega) (by omega)
    rw [hfuel] at hst
    have hN := hide hst
    have hx1 : (k : Int) + 10 ≤ (k : Int) + 10 + (m : Int) := by omega
    have hx2 : (k : Int) + 10 + (m : Int) ≤ (l.length : Int) := by omega
    have hx3 : k + 10 ≤ k + 10 + m := by omega
    have hx4 : k + 10 + m ≤ l.length := by omega
    have hx5 : ((k : Int) + 10).toNat = k + 10 := by omega
    have hx6 : ((k : Int) + 10 + (m : Int)).toNat = k + 10 + m := by omega
    clear hcc hst hcE hn htt hD hR hfuel kx
    go_wp2_with fail
    refine (KN.out _).mono ?_
    rintro e u1 ⟨rfl, rfl⟩
    go_wp2_with fail
    refine (KT.out _).mono ?_
    rintro e u2 ⟨rfl, rfl⟩
    go_wp2_with (refine wpList_append_rf rfl (.tmp 62) (.tmp 73) rfl (w.heap.size + 1) (.slice oa out.length oc) out ⟨tt, D⟩ (wr.heap.size) (by rfl) (by rfl) (H0.below (by (repeat' (first | (with_reducible (first | exact Below.refl _ _ | assumption | refine below_drewN ?_ _ | refine Below.drew ?_ | refine Below.alloc ?_ ?_ _ | refine Below.setCell ?_ ?_ _)) | go_size)))) (by (repeat' (first | (with_reducible (first | assumption | exact Blk.alloc_new _ _ _ (by first | rfl | (simp; done) | omega) | apply Blk.drewN | apply Blk.drew | apply Blk.alloc_old | apply Blk.set_same | apply Blk.set_other)) | (show (_ : Nat) ≠ _; first | omega | (simp; done) | (simp; omega)) | ((simp only [List.setIfInBounds_toArray, List.set_cons_succ, List.set_cons_zero]); (with_reducible exact rfl)) | (with_reducible exact rfl) | (show (_ : Array Value) = _; exact rfl)))) (by omega) (by simp; omega) ?_; intro v' w2 H2 hb2 hlow hoth; have g2 : Below w.heap.size w w2 := Below.trans (by (repeat' (first | (with_reducible (first | exact Below.refl _ _ | assumption | refine below_drewN ?_ _ | refine Below.drew ?_ | refine Below.alloc ?_ ?_ _ | refine Below.setCell ?_ ?_ _)) | go_size))) (hb2.mono (Nat.le_succ _)); have hz2 := g2.size; have R2 : Blk w2 w.heap.size #[.slice none 0 0, .int .i64 0] 36 := hlow _ _ _ (by omega) (by (repeat' (first | (with_reducible (first | assumption | exact Blk.alloc_new _ _ _ (by first | rfl | (simp; done) | omega) | apply Blk.drewN | apply Blk.drew | apply Blk.alloc_old | apply Blk.set_same | apply Blk.set_other)) | (show (_ : Nat) ≠ _; first | omega | (simp; done) | (simp; omega)) | ((simp only [List.setIfInBounds_toArray, List.set_cons_succ, List.set_cons_zero]); (with_reducible exact rfl)) | (with_reducible exact rfl) | (show (_ : Array Value) = _; exact rfl)))))
    go_roundw
    case rel => exact ⟨k + 10 + m, tt, out ++ [⟨tt, D⟩], by go_num, rfl, by omega, by omega, by rw [List.length_append]; simp; omega, H2, R2, g2, hN⟩
    case measure => simp [intOf]; omega
theorem rDecode46 (l : List Int) (w : World) (hl : Byt l) (hb : l.length ≤ 4611686018427387904) :
    Calls Try.prog 20 #[SV l] w fun x w' => ∃ v, x = .returned (.agg #[v, .int .i64 (decE l).1]) ∧ ((decE l).1 = 0 → HoldRf w' (w.heap.size + 1) v (decE l).2) ∧ ((decE l).1 ≠ 0 → v = .slice none 0 0) ∧ Below w.heap.size w w' := by
  by_cases h4 : l.length < 4
  · have he : decE l = (3, []) := by unfold decE; rw [if_pos h4]
    rw [he]
    refine (rDec_3 l w h4).mono ?_
    rintro e w' ⟨rfl, h⟩
    exact ⟨_, rfl, fun h => absurd h (by decide), fun _ => rfl, h⟩
  by_cases hf : l.take 4 ≠ flog
  · have he : decE l = (4, []) := by unfold decE; rw [if_neg h4, if_pos hf]
    rw [he]
    refine (rDec_4 l w hl (by omega) hb hf).mono ?_
    rintro e w' ⟨rfl, h⟩
    exact ⟨_, rfl, fun h => absurd h (by decide), fun _ => rfl, h⟩
  · obtain ⟨e, F, hE⟩ : ∃ e F, decE l = (e, F) := ⟨_, _, rfl⟩
    rw [hE]
    have he : decG ((l.drop 4).length + 1) (l.drop 4) 0 [] = (e, F) := by rw [← hE]; unfold decE; rw [if_neg h4, if_neg hf]
    exact rDec_ok l e F w hl (by omega) hb (Decidable.not_not.1 hf) he
end Go.Proofs.Ytljpiofpfankoaa
