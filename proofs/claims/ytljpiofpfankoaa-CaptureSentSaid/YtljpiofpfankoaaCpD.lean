/-
  Captures: a frame that is cut off; all of capture.cut. Conditions: strings that are not too long.
-/
import Derived.Test.YtljpiofpfankoaaCpC
namespace Go.Proofs.Ytljpiofpfankoaa
open Go.RowKit Go.Sort
set_option linter.unusedVariables false
set_option linter.unusedSimpArgs false
set_option maxRecDepth 100000 in
set_option maxHeartbeats 4000000 in
theorem cut_ok (l M D E : List Int) (last t : Int) (n : Nat) (w : World) (hl : Byt l) (hb : l.length ≤ 4611686018427387904) (hla : 0 ≤ last ∧ last ≤ 18446744073709551615) (h10 : 10 ≤ l.length) (ht : hor l 8 = t) (hn : hor (l.drop 8) 2 = (n : Int)) (h1 : 1 ≤ n ∧ n ≤ 16384) (h2 : (n : Int) ≤ (l.length : Int) - 10) (h3 : last ≤ t) (h4 : t ≤ 4611686018427387904) (hM : l.drop 10 = M) (hD : M.take n = D) (hE : M.drop n = E) :
    Calls Try.prog 43 #[SV l, .int .u64 last] w fun e w' => e = .returned (.tuple #[.agg #[.int .u64 t, SV D], SV E, .int .i64 0]) ∧ Below w.heap.size w w' := by
  have ks := sv_size
  have kx := strOf_sub
  have d1 : decide ((l.length : Int) < 10) = false := decide_eq_false (by omega)
  have htr : 0 ≤ t ∧ t ≤ 18446744073709551615 := by omega
  have hwn : IntKind.i64.wrap (n : Int) = (n : Int) := IntWalk.i64_in _ ⟨by omega, by omega⟩
  have R1 := hide (show ∀ v, Calls Try.prog 62 #[SV (l.take 8)] v fun e w' => e = .returned (.int .u64 t) ∧ v = w' from fun v => ccRead (l.take 8) t v (fun x hx => hl x (List.mem_of_mem_take hx)) (by rw [List.length_take]; omega) (by rw [List.length_take, show min 8 l.length = 8 by omega, hor_take _ _ _ (Nat.le_refl _)]; exact ht))
  have R2 := hide (show ∀ v, Calls Try.prog 62 #[SV ((l.drop 8).take 2)] v fun e w' => e = .returned (.int .u64 n) ∧ v = w' from fun v => ccRead ((l.drop 8).take 2) n v (fun x hx => hl x (List.mem_of_mem_drop (List.mem_of_mem_take hx))) (by rw [List.length_take]; omega) (by rw [List.length_take, List.length_drop, show min 2 (l.length - 8) = 2 by omega, hor_take _ _ _ (Nat.le_refl _)]; exact hn))
  have h8i : (8 : Int) ≤ (l.length : Int) := by omega
  have h10i : (10 : Int) ≤ (l.length : Int) := by omega
  have h8 : 8 ≤ l.length := by omega
  have hml : M.length = l.length - 10 := by rw [← hM, List.length_drop]
  have htk : M.take (l.length - 10) = M := List.take_of_length_le (by omega)
  have htk2 : E.take (M.length - n) = E := List.take_of_length_le (by rw [← hE, List.length_drop]; omega)
  have htn : (n : Int).toNat = n := Int.toNat_natCast n
  have hn1 : n ≤ M.length := by omega
  have hn2 : (n : Int) ≤ (M.length : Int) := by omega
  have d2 : decide ((n : Int) < 1) = false := decide_eq_false (by omega)
  have d3 : decide (16384 < (n : Int)) = false := decide_eq_false (by omega)
  have d3n : decide (16384 < n) = false := decide_eq_false (by omega)
  have d4 : decide ((M.length : Int) < (n : Int)) = false := decide_eq_false (by omega)
  have d4n : decide (M.length < n) = false := decide_eq_false (by omega)
  have d5 : decide (t < last) = false := decide_eq_false (by omega)
  have d6 : decide (4611686018427387904 < t) = false := decide_eq_false (by omega)
  clear ht hn
  go_enter Try.func43, Try.ntmps43
  go_wp2_with fail
  refine (R1.out _).mono ?_
  rintro e u1 ⟨rfl, rfl⟩
  go_wp2_with fail
  refine (R2.out _).mono ?_
  rintro e u2 ⟨rfl, rfl⟩
  clear hml
  go_upto_region 13 with (fail)
  refine wp_forget (fun v => Below w.heap.size w v ∧ Blk v (w.heap.size) #[.int .u64 0, .string ⟨#[]⟩] 55 ∧ Blk v (w.heap.size + 1) #[.int .u64 t, SV D] 55) ⟨by (repeat' (first | (with_reducible (first | exact Below.refl _ _ | assumption | refine below_drewN ?_ _ | refine Below.drew ?_ | refine Below.alloc ?_ ?_ _ | refine Below.setCell ?_ ?_ _)) | go_size)), by (repeat' (first | (with_reducible (first | assumption | exact Blk.alloc_new _ _ _ (by first | rfl | (simp; done) | omega) | apply Blk.drewN | apply Blk.drew | apply Blk.alloc_old | apply Blk.set_same | apply Blk.set_other)) | (show (_ : Nat) ≠ _; first | omega | (simp; done) | (simp; omega)) | ((simp only [List.setIfInBounds_toArray, List.set_cons_succ, List.set_cons_zero]); (with_reducible exact rfl)) | (with_reducible exact rfl) | (show (_ : Array Value) = _; exact rfl))), by (repeat' (first | (with_reducible (first | assumption | exact Blk.alloc_new _ _ _ (by first | rfl | (simp; done) | omega) | apply Blk.drewN | apply Blk.drew | apply Blk.alloc_old | apply Blk.set_same | apply Blk.set_other)) | (show (_ : Nat) ≠ _; first | omega | (simp; done) | (simp; omega)) | ((simp only [List.setIfInBounds_toArray, List.set_cons_succ, List.set_cons_zero]); (with_reducible exact rfl)) | (with_reducible exact rfl) | (show (_ : Array Value) = _; exact rfl)))⟩ ?_
  rintro w3 ⟨g3, R3, X3⟩
  have hz3 := g3.size
  have cR := R3.cell
  have fR := R3.frozen
  have zR := R3.size
  have cX := X3.cell
  have fX := X3.frozen
  have zX := X3.size
  go_cut [5, 6] (fun s5 s6 wx => s5 = SV E ∧ s6 = .int .i64 0 ∧ Below w.heap.size w wx ∧ Blk wx (w.heap.size) #[.int .u64 t, SV D] 55)
  case first =>
    refine wp_region_guarS (w.heap.size) (w.heap.size + 1) [(w.heap.size + 1, #[.int .u64 t, SV D], 55)] [(w.heap.size, #[.int .u64 t, SV D], 55)] [] [] [.val (.agg #[.int .u64 t, SV D]), .val (SV M), .val (.int .i64 n), .val (SV E), .full (0), .val (SV E), .val (.int .i64 0)] (by kernel_rfl) (by kernel_rfl) (by omega) (by omega) (by intro f m; simp only [List.mem_cons, List.not_mem_nil, or_false, List.append_nil, List.nil_append, List.cons_append] at m; rcases m with rfl <;> ((show Blk _ _ _ _) <;> (repeat' (first | (with_reducible (first | assumption | exact Blk.alloc_new _ _ _ (by first | rfl | (simp; done) | omega) | apply Blk.drewN | apply Blk.drew | apply Blk.alloc_old | apply Blk.set_same | apply Blk.set_other)) | (show (_ : Nat) ≠ _; first | omega | (simp; done) | (simp; omega)) | ((simp only [List.setIfInBounds_toArray, List.set_cons_succ, List.set_cons_zero]); (with_reducible exact rfl)) | (with_reducible exact rfl) | (show (_ : Array Value) = _; exact rfl))))) (by intro f m; simp only [List.mem_cons, List.not_mem_nil, or_false, List.append_nil, List.nil_append, List.cons_append] at m; rcases m with rfl <;> (first | (exact ⟨#[.int .u64 0, .string ⟨#[]⟩], rfl, by (repeat' (first | (with_reducible (first | assumption | exact Blk.alloc_new _ _ _ (by first | rfl | (simp; done) | omega) | apply Blk.drewN | apply Blk.drew | apply Blk.alloc_old | apply Blk.set_same | apply Blk.set_other)) | (show (_ : Nat) ≠ _; first | omega | (simp; done) | (simp; omega)) | ((simp only [List.setIfInBounds_toArray, List.set_cons_succ, List.set_cons_zero]); (with_reducible exact rfl)) | (with_reducible exact rfl) | (show (_ : Array Value) = _; exact rfl)))⟩))) ?_ ?_
    · refine ⟨?_, ?_, ?_, ?_, ?_, ?_, ?_, trivial⟩
      · intro a v c
        have e7 : a.eval (.tmp 7) = .pointer (some ⟨w.heap.size + 1, 0, none⟩) := (c.off 7 (by kernel_rfl)).trans rfl
        exact gloadS 55 (.tmp 7) (w.heap.size + 1) #[.int .u64 t, SV D] 55 _ rfl e7 (c.fact (w.heap.size + 1, #[.int .u64 t, SV D], 55) (by simp)) Try.underlying55 rfl (by kernel_rfl) rfl
      · intro a v c
        have e0 : a.eval (.tmp 0) = SV M := (c.off 0 (by kernel_rfl)).trans rfl
        have f0 := (eval_opt a 0).trans e0
        exact gvalS (SV M) (by simp only [execOp, f0, e0]; go_simp) rfl
      · intro a v c
        have e8 : a.eval (.tmp 8) = .int .i64 n := (c.off 8 (by kernel_rfl)).trans rfl
        have f8 := (eval_opt a 8).trans e8
        exact gvalS (.int .i64 n) (by simp only [execOp, f8, e8]; go_simp) rfl
      · intro a v c
        have e53 : a.eval (.tmp 53) = SV M := c.dep 1 _ (by kernel_rfl) rfl
        have e54 : a.eval (.tmp 54) = .int .i64 n := c.dep 2 _ (by kernel_rfl) rfl
        have f53 := (eval_opt a 53).trans e53
        have f54 := (eval_opt a 54).trans e54
        exact gvalS (SV E) (by simp only [execOp, f53, f54, e53, e54]; go_simp) rfl
      · intro a v c
        have e4 : a.eval (.tmp 4) = .pointer (some ⟨w.heap.size, 0, none⟩) := (c.off 4 (by kernel_rfl)).trans rfl
        have e52 : a.eval (.tmp 52) = .agg #[.int .u64 t, SV D] := c.dep 0 _ (by kernel_rfl) rfl
        exact gstoreS 0 (w.heap.size, #[.int .u64 t, SV D], 55) 55 (.tmp 4) (.tmp 52) rfl e4 e52 (c.room _ (by simp)) (by kernel_rfl) (by simp [Value.oneCell']) rfl rfl (by omega) (by omega) (by intro f m; simp only [List.mem_cons, List.not_mem_nil, or_false] at m; rcases m with rfl <;> ((show _ ≠ _) <;> (first | omega | (simp; omega)))) (by intro f m e; simp only [List.mem_cons, List.not_mem_nil, or_false] at m; rcases m with rfl <;> (first | rfl | (exfalso; simp at e; omega))) (fun _ h => absurd h (by simp))
      · intro a v c
        have e55 : a.eval (.tmp 55) = SV E := c.dep 3 _ (by kernel_rfl) rfl
        have f55 := (eval_opt a 55).trans e55
        exact gvalS (SV E) (by simp only [execOp, f55, e55]; go_simp) rfl
      · intro a v c
        exact gvalS (.int .i64 0) (by simp only [execOp]; go_simp) rfl
    intro a v hb hF hRm hCl hd ho hs hf
    have e52 : a.eval (.tmp 52) = .agg #[.int .u64 t, SV D] := hd 0 _ rfl
    have e53 : a.eval (.tmp 53) = SV M := hd 1 _ rfl
    have e54 : a.eval (.tmp 54) = .int .i64 n := hd 2 _ rfl
    have e55 : a.eval (.tmp 55) = SV E := hd 3 _ rfl
    have e5 : a.eval (.tmp 5) = SV E := hd 5 _ rfl
    have e6 : a.eval (.tmp 6) = .int .i64 0 := hd 6 _ rfl
    have XG : Blk v (w.heap.size + 1) #[.int .u64 t, SV D] 55 := hF (w.heap.size + 1, #[.int .u64 t, SV D], 55) (by simp)
    have RG : Blk v (w.heap.size) #[.int .u64 t, SV D] 55 := hd 4 _ rfl _ rfl
    have gG := g3.trans hb
    rw [frame_eta a 56 hs, hf]
    simp only [List.range, List.range.loop, List.map_cons, List.map_nil, e52, e53, e54, e55, e5, e6, ho 0 (by kernel_rfl), ho 1 (by kernel_rfl), ho 2 (by kernel_rfl), ho 3 (by kernel_rfl), ho 4 (by kernel_rfl), ho 7 (by kernel_rfl), ho 8 (by kernel_rfl), ho 9 (by kernel_rfl), ho 10 (by kernel_rfl), ho 11 (by kernel_rfl), ho 12 (by kernel_rfl), ho 13 (by kernel_rfl), ho 14 (by kernel_rfl), ho 15 (by kernel_rfl), ho 16 (by kernel_rfl), ho 17 (by kernel_rfl), ho 18 (by kernel_rfl), ho 19 (by kernel_rfl), ho 20 (by kernel_rfl), ho 21 (by kernel_rfl), ho 22 (by kernel_rfl), ho 23 (by kernel_rfl), ho 24 (by kernel_rfl), ho 25 (by kernel_rfl), ho 26 (by kernel_rfl), ho 27 (by kernel_rfl), ho 28 (by kernel_rfl), ho 29 (by kernel_rfl), ho 30 (by kernel_rfl), ho 31 (by kernel_rfl), ho 32 (by kernel_rfl), ho 33 (by kernel_rfl), ho 34 (by kernel_rfl), ho 35 (by kernel_rfl), ho 36 (by kernel_rfl), ho 37 (by kernel_rfl), ho 38 (by kernel_rfl), ho 39 (by kernel_rfl), ho 40 (by kernel_rfl), ho 41 (by kernel_rfl), ho 42 (by kernel_rfl), ho 43 (by kernel_rfl), ho 44 (by kernel_rfl), ho 45 (by kernel_rfl), ho 46 (by kernel_rfl), ho 47 (by kernel_rfl), ho 48 (by kernel_rfl), ho 49 (by kernel_rfl), ho 50 (by kernel_rfl), ho 51 (by kernel_rfl)]
    clear hd hF hRm hCl ho hf hs hb e52 e53 e54 e55 e5 e6
    clear a
    replace cX := XG.cell; replace fX := XG.frozen; replace zX := XG.size
    replace cR := RG.cell; replace fR := RG.frozen; replace zR := RG.size
    go_simp
    go_wp2_with fail
    go_meet
    exact ⟨rfl, rfl, gG, RG⟩
  case rest =>
    obtain ⟨rfl, rfl, g10, R10⟩ := hcut
    clear cR fR zR cX fX zX
    apply_assumption
    refine wp_ret ?_
    refine bp_forget (fun v => Below w.heap.size w v ∧ Blk v (w.heap.size) #[.int .u64 t, SV D] 55) ⟨g10, R10⟩ ?_
    rintro v ⟨gv, Bv⟩
    refine bodyPost_ret (v := .tuple #[.agg #[.int .u64 t, SV D], SV E, .int .i64 0]) ?_ ?_ ?_
    · exact results_dec (w.heap.size) #[.int .u64 t, SV D] 55 _ _ _ _ _ Try.results43 (by rfl) (by rfl) (by rfl) Bv Try.underlying55 rfl (by kernel_rfl)
    · rfl
    · exact ⟨rfl, gv⟩
/-- Why no frame can be cut off; its tick, its bytes, what is left. -/
def cutE (l : List Int) (last : Int) : Int :=
  if l.length < 10 then 3 else if hor (l.drop 8) 2 < 1 ∨ 16384 < hor (l.drop 8) 2 then 26 else if (l.length : Int) - 10 < hor (l.drop 8) 2 then 3 else if hor l 8 < last ∨ 4611686018427387904 < hor l 8 then 27 else 0
def cutD (l : List Int) : List Int := (l.drop 10).take (hor (l.drop 8) 2).toNat
def cutR (l : List Int) : List Int := (l.drop 10).drop (hor (l.drop 8) 2).toNat
theorem capCut (l : List Int) (last : Int) (w : World) (hl : Byt l) (hb : l.length ≤ 4611686018427387904) (hla : 0 ≤ last ∧ last ≤ 18446744073709551615) :
    Calls Try.prog 43 #[SV l, .int .u64 last] w fun e w' => e = .returned (.tuple #[.agg (if cutE l last = 0 then #[.int .u64 (hor l 8), SV (cutD l)] else #[.int .u64 0, .string ⟨#[]⟩]), (if cutE l last = 0 then SV (cutR l) else .string ⟨#[]⟩), .int .i64 (cutE l last)]) ∧ Below w.heap.size w w' := by
  obtain ⟨n, hn⟩ : ∃ n, hor (l.drop 8) 2 = n := ⟨_, rfl⟩
  have hnr : 0 ≤ n ∧ n ≤ 65535 := by rw [← hn]; have := hor_rng (l := l.drop 8) (fun x hx => hl x (List.mem_of_mem_drop hx)) 2; omega
  by_cases c0 : l.length < 10
  · have he : cutE l last = 3 := by unfold cutE; rw [if_pos c0]
    rw [he, if_neg (by omega), if_neg (by omega)]; exact cut_3a l last 0 0 w hl hb hla c0
  by_cases c1 : n < 1
  · have he : cutE l last = 26 := by unfold cutE; rw [if_neg c0, hn, if_pos (.inl c1)]
    rw [he, if_neg (by omega), if_neg (by omega)]; exact cut_26a l last _ n w hl hb hla (by omega) rfl hn c1
  by_cases c2 : 16384 < n
  · have he : cutE l last = 26 := by unfold cutE; rw [if_neg c0, hn, if_pos (.inr c2)]
    rw [he, if_neg (by omega), if_neg (by omega)]; exact cut_26b l last _ n w hl hb hla (by omega) rfl hn c2
  by_cases c3 : (l.length : Int) - 10 < n
  · have he : cutE l last = 3 := by unfold cutE; rw [if_neg c0, hn, if_neg (by omega), if_pos c3]
    rw [he, if_neg (by omega), if_neg (by omega)]; exact cut_3b l last _ n w hl hb hla (by omega) rfl hn (by omega) c3
  by_cases c4 : hor l 8 < last
  · have he : cutE l last = 27 := by unfold cutE; rw [if_neg c0, hn, if_neg (by omega), if_neg c3, if_pos (.inl c4)]
    rw [he, if_neg (by omega), if_neg (by omega)]; exact cut_27a l last _ n w hl hb hla (by omega) rfl hn (by omega) (by omega) c4
  by_cases c5 : 4611686018427387904 < hor l 8
  · have he : cutE l last = 27 := by unfold cutE; rw [if_neg c0, hn, if_neg (by omega), if_neg c3, if_pos (.inr c5)]
    rw [he, if_neg (by omega), if_neg (by omega)]; exact cut_27b l last _ n w hl hb hla (by omega) rfl hn (by omega) (by omega) (by omega) c5
  have he : cutE l last = 0 := by unfold cutE; rw [if_neg c0, hn, if_neg (by omega), if_neg c3, if_neg (by omega)]
  rw [he, if_pos rfl, if_pos rfl]
  unfold cutD cutR
  rw [hn]
  exact cut_ok l (l.drop 10) _ _ last _ n.toNat w hl hb hla (by omega) rfl (by omega) (by omega) (by omega) (by omega) (by omega) rfl rfl rfl
end Go.Proofs.Ytljpiofpfankoaa
