/-
  flow.Key, flow.Packet: what they are in plain numbers; the reference's Key. Conditions: strings that are not too long.
-/
import Derived.Test.YtljpiofpfankoaaFlB
import Derived.Test.YtljpiofpfankoaaIpP
namespace Go.Proofs.Ytljpiofpfankoaa
open Go.RowKit Go.Sort
set_option linter.unusedVariables false
set_option linter.unusedSimpArgs false
theorem results_ct {P : Program} {fn : Func} {s a : Tmp} {T : TypeId} (B : Nat) (cs : Array Value) (t : TypeId) (d : TypeDesc) (tmps : Array Value) (w : World) (x : Value)
    (h : fn.results = #[.cell s T, .tmp a]) (hx : tmps.getD s undef = .pointer (some ⟨B, 0, none⟩)) (ha : tmps.getD a undef = x) (hB : Blk w B cs t) (hu : P.underlying T = some d) (hd : d.isRow = true) (hi : (P.info? T).map (·.size) = some cs.size) : (results fn tmps).run P w = .ok (.tuple #[.agg cs, x]) w := by
  have hl := run_loadVar_mid (P := P) w B 0 T cs.toList d (fun j v hj => by rw [hB.cell, Nat.zero_add]; simpa using hj) hu hd (by simpa using hi)
  have hx' : tmps[s]?.getD undef = .pointer (some ⟨B, 0, none⟩) := by simpa [Array.getD_eq_getD_getElem?] using hx
  have ha' : tmps[a]?.getD undef = x := by simpa [Array.getD_eq_getD_getElem?] using ha
  simp [results, h, Sem.run_bind, Result.andThen, hx', ha', asAddr, hl]
theorem fkey (h : HD) (b : List Int) (w : World) (ok : h.ok) (hb : Byt b) : Calls Try.prog 48 #[hdv h, SV b] w fun e w' => e = .returned (kv (keyL h b)) ∧ Below w.heap.size w w' := by
  unfold keyL
  by_cases h6 : h.pr = 6
  · by_cases h0 : h.off = 0
    · by_cases h4 : 4 ≤ b.length
      · have hp : portB h b := ⟨.inl h6, h0, h4⟩
        rw [if_pos hp, if_pos hp]
        exact fkey_d6 h b _ _ _ w ok rfl rfl rfl _ _ hb h6 h0 h4 rfl rfl
      · have hp : ¬ portB h b := fun q => h4 q.2.2
        rw [if_neg hp, if_neg hp]
        exact fkey_c6 h b _ _ _ w ok rfl rfl rfl h6 h0 (by omega)
    · have hp : ¬ portB h b := fun q => h0 q.2.1
      rw [if_neg hp, if_neg hp]
      exact fkey_b6 h b _ _ _ w ok rfl rfl rfl h6 h0
  by_cases h17 : h.pr = 17
  · by_cases h0 : h.off = 0
    · by_cases h4 : 4 ≤ b.length
      · have hp : portB h b := ⟨.inr h17, h0, h4⟩
        rw [if_pos hp, if_pos hp]
        exact fkey_d17 h b _ _ _ w ok rfl rfl rfl _ _ hb h17 h0 h4 rfl rfl
      · have hp : ¬ portB h b := fun q => h4 q.2.2
        rw [if_neg hp, if_neg hp]
        exact fkey_c17 h b _ _ _ w ok rfl rfl rfl h17 h0 (by omega)
    · have hp : ¬ portB h b := fun q => h0 q.2.1
      rw [if_neg hp, if_neg hp]
      exact fkey_b17 h b _ _ _ w ok rfl rfl rfl h17 h0
  · have hn : ¬ portB h b := by rintro ⟨q | q, _⟩ <;> contradiction
    rw [if_neg hn, if_neg hn]
    exact fkey_a h b _ _ _ w ok rfl rfl rfl h6 h17
set_option maxRecDepth 100000 in
set_option maxHeartbeats 4000000 in
theorem flowKey_bad (l : List Int) (x : Int) (w : World) (hx : x ≠ 0)
    (KD : Hid (∀ v, Calls Try.prog 47 #[SV l] v fun e w' => e = .returned (.tuple #[.agg #[.int .u8 0, .int .u16 0, .int .u8 0, .int .u16 0, .int .u8 0, .int .u8 0, .int .u32 0, .int .u32 0, .string ⟨#[]⟩], .string ⟨#[]⟩, .int .i64 x]) ∧ Below v.heap.size v w')) :
    Calls Try.prog 26 #[SV l] w fun e w' => e = .returned (.tuple #[.agg #[.int .u16 0, .int .u16 0, .int .u16 0, .int .u16 0], .int .i64 x]) ∧ Below w.heap.size w w' := by
  have hxb : (x != 0) = true := bne_iff_ne.2 hx
  go_enter Try.func26, Try.ntmps26
  go_wp2_with fail
  refine (KD.out _).mono ?_
  rintro e w1 ⟨rfl, hb1⟩
  have R1 : Blk w1 (w.heap.size) #[.int .u16 0, .int .u16 0, .int .u16 0, .int .u16 0] 48 := Blk.below (by (repeat' (first | (with_reducible (first | assumption | exact Blk.alloc_new _ _ _ (by first | rfl | (simp; done) | omega) | apply Blk.drewN | apply Blk.drew | apply Blk.alloc_old | apply Blk.set_same | apply Blk.set_other)) | (show (_ : Nat) ≠ _; first | omega | (simp; done) | (simp; omega)) | ((simp only [List.setIfInBounds_toArray, List.set_cons_succ, List.set_cons_zero]); (with_reducible exact rfl)) | (with_reducible exact rfl) | (show (_ : Array Value) = _; exact rfl)))) hb1 (by first | (simp; done) | omega | (simp; omega))
  have g1 : Below w.heap.size w w1 := by refine Below.trans ?_ (hb1.mono ?_) <;> (repeat' (first | (with_reducible (first | exact Below.refl _ _ | assumption | refine below_drewN ?_ _ | refine Below.drew ?_ | refine Below.alloc ?_ ?_ _ | refine Below.setCell ?_ ?_ _)) | go_size))
  have hz1 := hb1.size
  (try simp at hz1)
  clear hb1
  replace cR := R1.cell
  replace fR := R1.frozen
  replace zR := R1.size
  go_wp2
  refine bp_forget (fun v => Below w.heap.size w v ∧ Blk v (w.heap.size) #[.int .u16 0, .int .u16 0, .int .u16 0, .int .u16 0] 48) ⟨by (repeat' (first | (with_reducible (first | exact Below.refl _ _ | assumption | refine below_drewN ?_ _ | refine Below.drew ?_ | refine Below.alloc ?_ ?_ _ | refine Below.setCell ?_ ?_ _)) | go_size)), by (repeat' (first | (with_reducible (first | assumption | exact Blk.alloc_new _ _ _ (by first | rfl | (simp; done) | omega) | apply Blk.drewN | apply Blk.drew | apply Blk.alloc_old | apply Blk.set_same | apply Blk.set_other)) | (show (_ : Nat) ≠ _; first | omega | (simp; done) | (simp; omega)) | ((simp only [List.setIfInBounds_toArray, List.set_cons_succ, List.set_cons_zero]); (with_reducible exact rfl)) | (with_reducible exact rfl) | (show (_ : Array Value) = _; exact rfl)))⟩ ?_
  rintro v ⟨gv, Bv⟩
  refine bodyPost_ret (v := .tuple #[.agg #[.int .u16 0, .int .u16 0, .int .u16 0, .int .u16 0], .int .i64 x]) ?_ ?_ ?_
  · exact results_ct (w.heap.size) #[.int .u16 0, .int .u16 0, .int .u16 0, .int .u16 0] 48 _ _ _ _ Try.results26 (by rfl) (by rfl) Bv Try.underlying48 rfl (by kernel_rfl)
  · rfl
  · exact ⟨rfl, gv⟩
set_option maxRecDepth 100000 in
set_option maxHeartbeats 4000000 in
theorem flowKey_ok (l b : List Int) (h : HD) (k : K4) (w : World)
    (KD : Hid (∀ v, Calls Try.prog 47 #[SV l] v fun e w' => e = .returned (.tuple #[.agg #[.int .u8 h.tos, .int .u16 h.id, .int .u8 h.fl, .int .u16 h.off, .int .u8 h.ttl, .int .u8 h.pr, .int .u32 h.src, .int .u32 h.dst, SV h.o], SV b, .int .i64 0]) ∧ Below v.heap.size v w'))
    (KK : Hid (∀ v, Calls Try.prog 48 #[.agg #[.int .u8 h.tos, .int .u16 h.id, .int .u8 h.fl, .int .u16 h.off, .int .u8 h.ttl, .int .u8 h.pr, .int .u32 h.src, .int .u32 h.dst, SV h.o], SV b] v fun e w' => e = .returned (.agg #[.int .u16 k.a, .int .u16 k.b, .int .u16 k.c, .int .u16 k.d]) ∧ Below v.heap.size v w')) :
    Calls Try.prog 26 #[SV l] w fun e w' => e = .returned (.tuple #[.agg #[.int .u16 k.a, .int .u16 k.b, .int .u16 k.c, .int .u16 k.d], .int .i64 0]) ∧ Below w.heap.size w w' := by
  go_enter Try.func26, Try.ntmps26
  go_wp2_with fail
  refine (KD.out _).mono ?_
  rintro e w1 ⟨rfl, hb1⟩
  have R1 : Blk w1 (w.heap.size) #[.int .u16 0, .int .u16 0, .int .u16 0, .int .u16 0] 48 := Blk.below (by (repeat' (first | (with_reducible (first | assumption | exact Blk.alloc_new _ _ _ (by first | rfl | (simp; done) | omega) | apply Blk.drewN | apply Blk.drew | apply Blk.alloc_old | apply Blk.set_same | apply Blk.set_other)) | (show (_ : Nat) ≠ _; first | omega | (simp; done) | (simp; omega)) | ((simp only [List.setIfInBounds_toArray, List.set_cons_succ, List.set_cons_zero]); (with_reducible exact rfl)) | (with_reducible exact rfl) | (show (_ : Array Value) = _; exact rfl)))) hb1 (by first | (simp; done) | omega | (simp; omega))
  have g1 : Below w.heap.size w w1 := by refine Below.trans ?_ (hb1.mono ?_) <;> (repeat' (first | (with_reducible (first | exact Below.refl _ _ | assumption | refine below_drewN ?_ _ | refine Below.drew ?_ | refine Below.alloc ?_ ?_ _ | refine Below.setCell ?_ ?_ _)) | go_size))
  have hz1 := hb1.size
  (try simp at hz1)
  clear hb1
  replace cR := R1.cell
  replace fR := R1.frozen
  replace zR := R1.size
  go_wp2_with fail
  refine (KK.out _).mono ?_
  rintro e w2 ⟨rfl, hb2⟩
  have R2 : Blk w2 (w.heap.size) #[.int .u16 0, .int .u16 0, .int .u16 0, .int .u16 0] 48 := Blk.below (by (repeat' (first | (with_reducible (first | assumption | exact Blk.alloc_new _ _ _ (by first | rfl | (simp; done) | omega) | apply Blk.drewN | apply Blk.drew | apply Blk.alloc_old | apply Blk.set_same | apply Blk.set_other)) | (show (_ : Nat) ≠ _; first | omega | (simp; done) | (simp; omega)) | ((simp only [List.setIfInBounds_toArray, List.set_cons_succ, List.set_cons_zero]); (with_reducible exact rfl)) | (with_reducible exact rfl) | (show (_ : Array Value) = _; exact rfl)))) hb2 (by first | (simp; done) | omega | (simp; omega))
  have g2 : Below w.heap.size w w2 := by refine Below.trans ?_ (hb2.mono ?_) <;> (repeat' (first | (with_reducible (first | exact Below.refl _ _ | assumption | refine below_drewN ?_ _ | refine Below.drew ?_ | refine Below.alloc ?_ ?_ _ | refine Below.setCell ?_ ?_ _)) | go_size))
  have hz2 := hb2.size
  (try simp at hz2)
  clear hb2
  replace cR := R2.cell
  replace fR := R2.frozen
  replace zR := R2.size
  go_wp2
  refine bp_forget (fun v => Below w.heap.size w v ∧ Blk v (w.heap.size) #[.int .u16 k.a, .int .u16 k.b, .int .u16 k.c, .int .u16 k.d] 48) ⟨by (repeat' (first | (with_reducible (first | exact Below.refl _ _ | assumption | refine below_drewN ?_ _ | refine Below.drew ?_ | refine Below.alloc ?_ ?_ _ | refine Below.setCell ?_ ?_ _)) | go_size)), by (repeat' (first | (with_reducible (first | assumption | exact Blk.alloc_new _ _ _ (by first | rfl | (simp; done) | omega) | apply Blk.drewN | apply Blk.drew | apply Blk.alloc_old | apply Blk.set_same | apply Blk.set_other)) | (show (_ : Nat) ≠ _; first | omega | (simp; done) | (simp; omega)) | ((simp only [List.setIfInBounds_toArray, List.set_cons_succ, List.set_cons_zero]); (with_reducible exact rfl)) | (with_reducible exact rfl) | (show (_ : Array Value) = _; exact rfl)))⟩ ?_
  rintro v ⟨gv, Bv⟩
  refine bodyPost_ret (v := .tuple #[.agg #[.int .u16 k.a, .int .u16 k.b, .int .u16 k.c, .int .u16 k.d], .int .i64 0]) ?_ ?_ ?_
  · exact results_ct (w.heap.size) #[.int .u16 k.a, .int .u16 k.b, .int .u16 k.c, .int .u16 k.d] 48 _ _ _ _ Try.results26 (by rfl) (by rfl) Bv Try.underlying48 rfl (by kernel_rfl)
  · rfl
  · exact ⟨rfl, gv⟩
def fkV (l : List Int) : K4 := if badR l = 0 then keyL (hdL l) (bdL l) else ⟨0, 0, 0, 0⟩
theorem bd_byt {l : List Int} (hl : Byt l) : Byt (bdL l) := fun x hx => hl x (List.mem_of_mem_drop hx)
theorem hdL_ok' {l : List Int} (hl : Byt l) : (hdL l).ok := by
  have q := fun k => hl.get k
  have q1 := q 1; have q4 := q 4; have q5 := q 5; have q6 := q 6; have q7 := q 7; have q8 := q 8; have q9 := q 9; have q12 := q 12; have q13 := q 13; have q14 := q 14; have q15 := q 15; have q16 := q 16; have q17 := q 17; have q18 := q 18; have q19 := q 19
  have hp : ptL l = l.getD 6 0 * 256 + l.getD 7 0 := rfl
  unfold HD.ok hdL
  simp only
  refine ⟨q1, by omega, by omega, by omega, q8, q9, by omega, by omega, ?_⟩
  intro x hx
  exact hl x (List.mem_of_mem_drop (List.mem_of_mem_take hx))
theorem flowKey (l : List Int) (w : World) (hl : Byt l) (hb : l.length ≤ 4611686018427387904) :
    Calls Try.prog 26 #[SV l] w fun e w' => e = .returned (.tuple #[kv (fkV l), .int .i64 (badR l)]) ∧ Below w.heap.size w w' := by
  unfold fkV
  by_cases h0 : badR l = 0
  · rw [if_pos h0, h0]
    exact flowKey_ok l (bdL l) (hdL l) (keyL (hdL l) (bdL l)) w (hide fun v => by have h := ipDecode l v hl hb; rw [decV_ok h0] at h; exact h) (hide fun v => fkey (hdL l) (bdL l) v (hdL_ok' hl) (bd_byt hl))
  · rw [if_neg h0]
    exact flowKey_bad l (badR l) w h0 (hide fun v => by have h := ipDecode l v hl hb; rw [decV_bad rfl h0] at h; exact h)
set_option maxRecDepth 100000 in
set_option maxHeartbeats 4000000 in
theorem flowPacket_bad (l : List Int) (k : K4) (id most x : Int) (w : World) (hid : 0 ≤ id ∧ id ≤ 18446744073709551615) (hmo : -9223372036854775808 ≤ most ∧ most ≤ 9223372036854775807) (hb : l.length ≤ 4611686018427387904) (hx : x ≠ 0)
    (KK : Hid (∀ v, Calls Try.prog 26 #[SV l] v fun e w' => e = .returned (.tuple #[.agg #[.int .u16 0, .int .u16 0, .int .u16 0, .int .u16 0], .int .i64 x]) ∧ Below v.heap.size v w')) :
    Calls Try.prog 27 #[.int .u64 id, SV l, .int .i64 most] w fun e w' => e = .returned (.tuple #[.agg #[.int .u64 0, .int .i64 0, .int .u16 0, .int .u16 0, .int .u16 0, .int .u16 0], .int .i64 x]) ∧ Below w.heap.size w w' := by
  have ks := sv_size
  have hxb : (x != 0) = true := bne_iff_ne.2 hx
  go_enter Try.func27, Try.ntmps27
  go_wp2_with fail
  refine (KK.out _).mono ?_
  rintro e w1 ⟨rfl, hb1⟩
  have R1 : Blk w1 (w.heap.size) #[.int .u64 0, .int .i64 0, .int .u16 0, .int .u16 0, .int .u16 0, .int .u16 0] 50 := Blk.below (by (repeat' (first | (with_reducible (first | assumption | exact Blk.alloc_new _ _ _ (by first | rfl | (simp; done) | omega) | apply Blk.drewN | apply Blk.drew | apply Blk.alloc_old | apply Blk.set_same | apply Blk.set_other)) | (show (_ : Nat) ≠ _; first | omega | (simp; done) | (simp; omega)) | ((simp only [List.setIfInBounds_toArray, List.set_cons_succ, List.set_cons_zero]); (with_reducible exact rfl)) | (with_reducible exact rfl) | (show (_ : Array Value) = _; exact rfl)))) hb1 (by first | (simp; done) | omega | (simp; omega))
  have g1 : Below w.heap.size w w1 := by refine Below.trans ?_ (hb1.mono ?_) <;> (repeat' (first | (with_reducible (first | exact Below.refl _ _ | assumption | refine below_drewN ?_ _ | refine Below.drew ?_ | refine Below.alloc ?_ ?_ _ | refine Below.setCell ?_ ?_ _)) | go_size))
  have hz1 := hb1.size
  (try simp at hz1)
  clear hb1
  replace cR := R1.cell
  replace fR := R1.frozen
  replace zR := R1.size
  go_wp2_with (first | (refine store_blk 50 (.tmp 6) (.tmp 18) (w.heap.size) #[.int .u64 0, .int .i64 0, .int .u16 0, .int .u16 0, .int .u16 0, .int .u16 0] #[.int .u64 0, .int .i64 0, .int .u16 0, .int .u16 0, .int .u16 0, .int .u16 0] 50 (by rfl) (by rfl) (by rfl) (by rfl) (by (repeat' (first | (with_reducible (first | assumption | exact Blk.alloc_new _ _ _ (by first | rfl | (simp; done) | omega) | apply Blk.drewN | apply Blk.drew | apply Blk.alloc_old | apply Blk.set_same | apply Blk.set_other)) | (show (_ : Nat) ≠ _; first | omega | (simp; done) | (simp; omega)) | ((simp only [List.setIfInBounds_toArray, List.set_cons_succ, List.set_cons_zero]); (with_reducible exact rfl)) | (with_reducible exact rfl) | (show (_ : Array Value) = _; exact rfl)))) rfl (by kernel_rfl) (by simp [Value.oneCell']) ?_; intro v Bv kB kO hs; have gv : Below w.heap.size w v := kB _ _ (by first | (simp; done) | omega | (simp; omega)) (by (repeat' (first | (with_reducible (first | exact Below.refl _ _ | assumption | refine below_drewN ?_ _ | refine Below.drew ?_ | refine Below.alloc ?_ ?_ _ | refine Below.setCell ?_ ?_ _)) | go_size))); clear kB kO hs))
  refine bodyPost_ret (v := .tuple #[.agg #[.int .u64 0, .int .i64 0, .int .u16 0, .int .u16 0, .int .u16 0, .int .u16 0], .int .i64 x]) ?_ ?_ ?_
  · exact results_ct (w.heap.size) #[.int .u64 0, .int .i64 0, .int .u16 0, .int .u16 0, .int .u16 0, .int .u16 0] 50 _ _ _ _ Try.results27 (by rfl) (by rfl) Bv Try.underlying50 rfl (by kernel_rfl)
  · rfl
  · exact ⟨rfl, gv⟩
set_option maxRecDepth 100000 in
set_option maxHeartbeats 4000000 in
theorem flowPacket_most (l : List Int) (k : K4) (id most x : Int) (w : World) (hid : 0 ≤ id ∧ id ≤ 18446744073709551615) (hmo : -9223372036854775808 ≤ most ∧ most ≤ 9223372036854775807) (hb : l.length ≤ 4611686018427387904) (h1 : most < (l.length : Int))
    (KK : Hid (∀ v, Calls Try.prog 26 #[SV l] v fun e w' => e = .returned (.tuple #[.agg #[.int .u16 k.a, .int .u16 k.b, .int .u16 k.c, .int .u16 k.d], .int .i64 0]) ∧ Below v.heap.size v w')) :
    Calls Try.prog 27 #[.int .u64 id, SV l, .int .i64 most] w fun e w' => e = .returned (.tuple #[.agg #[.int .u64 0, .int .i64 0, .int .u16 0, .int .u16 0, .int .u16 0, .int .u16 0], .int .i64 26]) ∧ Below w.heap.size w w' := by
  have ks := sv_size
  have d1 : decide (most < (l.length : Int)) = true := decide_eq_true h1
  go_enter Try.func27, Try.ntmps27
  go_wp2_with fail
  refine (KK.out _).mono ?_
  rintro e w1 ⟨rfl, hb1⟩
  have R1 : Blk w1 (w.heap.size) #[.int .u64 0, .int .i64 0, .int .u16 0, .int .u16 0, .int .u16 0, .int .u16 0] 50 := Blk.below (by (repeat' (first | (with_reducible (first | assumption | exact Blk.alloc_new _ _ _ (by first | rfl | (simp; done) | omega) | apply Blk.drewN | apply Blk.drew | apply Blk.alloc_old | apply Blk.set_same | apply Blk.set_other)) | (show (_ : Nat) ≠ _; first | omega | (simp; done) | (simp; omega)) | ((simp only [List.setIfInBounds_toArray, List.set_cons_succ, List.set_cons_zero]); (with_reducible exact rfl)) | (with_reducible exact rfl) | (show (_ : Array Value) = _; exact rfl)))) hb1 (by first | (simp; done) | omega | (simp; omega))
  have g1 : Below w.heap.size w w1 := by refine Below.trans ?_ (hb1.mono ?_) <;> (repeat' (first | (with_reducible (first | exact Below.refl _ _ | assumption | refine below_drewN ?_ _ | refine Below.drew ?_ | refine Below.alloc ?_ ?_ _ | refine Below.setCell ?_ ?_ _)) | go_size))
  have hz1 := hb1.size
  (try simp at hz1)
  clear hb1
  replace cR := R1.cell
  replace fR := R1.frozen
  replace zR := R1.size
  go_wp2_with (first | (refine store_blk 50 (.tmp 6) (.tmp 30) (w.heap.size) #[.int .u64 0, .int .i64 0, .int .u16 0, .int .u16 0, .int .u16 0, .int .u16 0] #[.int .u64 0, .int .i64 0, .int .u16 0, .int .u16 0, .int .u16 0, .int .u16 0] 50 (by rfl) (by rfl) (by rfl) (by rfl) (by (repeat' (first | (with_reducible (first | assumption | exact Blk.alloc_new _ _ _ (by first | rfl | (simp; done) | omega) | apply Blk.drewN | apply Blk.drew | apply Blk.alloc_old | apply Blk.set_same | apply Blk.set_other)) | (show (_ : Nat) ≠ _; first | omega | (simp; done) | (simp; omega)) | ((simp only [List.setIfInBounds_toArray, List.set_cons_succ, List.set_cons_zero]); (with_reducible exact rfl)) | (with_reducible exact rfl) | (show (_ : Array Value) = _; exact rfl)))) rfl (by kernel_rfl) (by simp [Value.oneCell']) ?_; intro v Bv kB kO hs; have gv : Below w.heap.size w v := kB _ _ (by first | (simp; done) | omega | (simp; omega)) (by (repeat' (first | (with_reducible (first | exact Below.refl _ _ | assumption | refine below_drewN ?_ _ | refine Below.drew ?_ | refine Below.alloc ?_ ?_ _ | refine Below.setCell ?_ ?_ _)) | go_size))); clear kB kO hs))
  refine bodyPost_ret (v := .tuple #[.agg #[.int .u64 0, .int .i64 0, .int .u16 0, .int .u16 0, .int .u16 0, .int .u16 0], .int .i64 26]) ?_ ?_ ?_
  · exact results_ct (w.heap.size) #[.int .u64 0, .int .i64 0, .int .u16 0, .int .u16 0, .int .u16 0, .int .u16 0] 50 _ _ _ _ Try.results27 (by rfl) (by rfl) Bv Try.underlying50 rfl (by kernel_rfl)
  · rfl
  · exact ⟨rfl, gv⟩
set_option maxRecDepth 100000 in
set_option maxHeartbeats 4000000 in
theorem flowPacket_long (l : List Int) (k : K4) (id most x : Int) (w : World) (hid : 0 ≤ id ∧ id ≤ 18446744073709551615) (hmo : -9223372036854775808 ≤ most ∧ most ≤ 9223372036854775807) (hb : l.length ≤ 4611686018427387904) (h1 : ¬ most < (l.length : Int)) (h2 : 16384 < l.length)
    (KK : Hid (∀ v, Calls Try.prog 26 #[SV l] v fun e w' => e = .returned (.tuple #[.agg #[.int .u16 k.a, .int .u16 k.b, .int .u16 k.c, .int .u16 k.d], .int .i64 0]) ∧ Below v.heap.size v w')) :
    Calls Try.prog 27 #[.int .u64 id, SV l, .int .i64 most] w fun e w' => e = .returned (.tuple #[.agg #[.int .u64 0, .int .i64 0, .int .u16 0, .int .u16 0, .int .u16 0, .int .u16 0], .int .i64 26]) ∧ Below w.heap.size w w' := by
  have ks := sv_size
  have d1 : decide (most < (l.length : Int)) = false := decide_eq_false h1
  have d2 : decide (16384 < (l.length : Int)) = true := decide_eq_true (by omega)
  have d2n : decide (16384 < l.length) = true := decide_eq_true (by omega)
  go_enter Try.func27, Try.ntmps27
  go_wp2_with fail
  refine (KK.out _).mono ?_
  rintro e w1 ⟨rfl, hb1⟩
  have R1 : Blk w1 (w.heap.size) #[.int .u64 0, .int .i64 0, .int .u16 0, .int .u16 0, .int .u16 0, .int .u16 0] 50 := Blk.below (by (repeat' (first | (with_reducible (first | assumption | exact Blk.alloc_new _ _ _ (by first | rfl | (simp; done) | omega) | apply Blk.drewN | apply Blk.drew | apply Blk.alloc_old | apply Blk.set_same | apply Blk.set_other)) | (show (_ : Nat) ≠ _; first | omega | (simp; done) | (simp; omega)) | ((simp only [List.setIfInBounds_toArray, List.set_cons_succ, List.set_cons_zero]); (with_reducible exact rfl)) | (with_reducible exact rfl) | (show (_ : Array Value) = _; exact rfl)))) hb1 (by first | (simp; done) | omega | (simp; omega))
  have g1 : Below w.heap.size w w1 := by refine Below.trans ?_ (hb1.mono ?_) <;> (repeat' (first | (with_reducible (first | exact Below.refl _ _ | assumption | refine below_drewN ?_ _ | refine Below.drew ?_ | refine Below.alloc ?_ ?_ _ | refine Below.setCell ?_ ?_ _)) | go_size))
  have hz1 := hb1.size
  (try simp at hz1)
  clear hb1
  replace cR := R1.cell
  replace fR := R1.frozen
  replace zR := R1.size
  go_wp2_with (first | (refine store_blk 50 (.tmp 6) (.tmp 30) (w.heap.size) #[.int .u64 0, .int .i64 0, .int .u16 0, .int .u16 0, .int .u16 0, .int .u16 0] #[.int .u64 0, .int .i64 0, .int .u16 0, .int .u16 0, .int .u16 0, .int .u16 0] 50 (by rfl) (by rfl) (by rfl) (by rfl) (by (repeat' (first | (with_reducible (first | assumption | exact Blk.alloc_new _ _ _ (by first | rfl | (simp; done) | omega) | apply Blk.drewN | apply Blk.drew | apply Blk.alloc_old | apply Blk.set_same | apply Blk.set_other)) | (show (_ : Nat) ≠ _; first | omega | (simp; done) | (simp; omega)) | ((simp only [List.setIfInBounds_toArray, List.set_cons_succ, List.set_cons_zero]); (with_reducible exact rfl)) | (with_reducible exact rfl) | (show (_ : Array Value) = _; exact rfl)))) rfl (by kernel_rfl) (by simp [Value.oneCell']) ?_; intro v Bv kB kO hs; have gv : Below w.heap.size w v := kB _ _ (by first | (simp; done) | omega | (simp; omega)) (by (repeat' (first | (with_reducible (first | exact Below.refl _ _ | assumption | refine below_drewN ?_ _ | refine Below.drew ?_ | refine Below.alloc ?_ ?_ _ | refine Below.setCell ?_ ?_ _)) | go_size))); clear kB kO hs))
  refine bodyPost_ret (v := .tuple #[.agg #[.int .u64 0, .int .i64 0, .int .u16 0, .int .u16 0, .int .u16 0, .int .u16 0], .int .i64 26]) ?_ ?_ ?_
  · exact results_ct (w.heap.size) #[.int .u64 0, .int .i64 0, .int .u16 0, .int .u16 0, .int .u16 0, .int .u16 0] 50 _ _ _ _ Try.results27 (by rfl) (by rfl) Bv Try.underlying50 rfl (by kernel_rfl)
  · rfl
  · exact ⟨rfl, gv⟩
set_option maxRecDepth 100000 in
set_option maxHeartbeats 4000000 in
theorem flowPacket_ok (l : List Int) (k : K4) (id most x : Int) (w : World) (hid : 0 ≤ id ∧ id ≤ 18446744073709551615) (hmo : -9223372036854775808 ≤ most ∧ most ≤ 9223372036854775807) (hb : l.length ≤ 4611686018427387904) (h1 : ¬ most < (l.length : Int)) (h2 : l.length ≤ 16384)
    (KK : Hid (∀ v, Calls Try.prog 26 #[SV l] v fun e w' => e = .returned (.tuple #[.agg #[.int .u16 k.a, .int .u16 k.b, .int .u16 k.c, .int .u16 k.d], .int .i64 0]) ∧ Below v.heap.size v w')) :
    Calls Try.prog 27 #[.int .u64 id, SV l, .int .i64 most] w fun e w' => e = .returned (.tuple #[.agg #[.int .u64 id, .int .i64 l.length, .int .u16 k.a, .int .u16 k.b, .int .u16 k.c, .int .u16 k.d], .int .i64 0]) ∧ Below w.heap.size w w' := by
  have ks := sv_size
  have d1 : decide (most < (l.length : Int)) = false := decide_eq_false h1
  have d2 : decide (16384 < (l.length : Int)) = false := decide_eq_false (by omega)
  have d2n : decide (16384 < l.length) = false := decide_eq_false (by omega)
  go_enter Try.func27, Try.ntmps27
  go_wp2_with fail
  refine (KK.out _).mono ?_
  rintro e w1 ⟨rfl, hb1⟩
  have R1 : Blk w1 (w.heap.size) #[.int .u64 0, .int .i64 0, .int .u16 0, .int .u16 0, .int .u16 0, .int .u16 0] 50 := Blk.below (by (repeat' (first | (with_reducible (first | assumption | exact Blk.alloc_new _ _ _ (by first | rfl | (simp; done) | omega) | apply Blk.drewN | apply Blk.drew | apply Blk.alloc_old | apply Blk.set_same | apply Blk.set_other)) | (show (_ : Nat) ≠ _; first | omega | (simp; done) | (simp; omega)) | ((simp only [List.setIfInBounds_toArray, List.set_cons_succ, List.set_cons_zero]); (with_reducible exact rfl)) | (with_reducible exact rfl) | (show (_ : Array Value) = _; exact rfl)))) hb1 (by first | (simp; done) | omega | (simp; omega))
  have g1 : Below w.heap.size w w1 := by refine Below.trans ?_ (hb1.mono ?_) <;> (repeat' (first | (with_reducible (first | exact Below.refl _ _ | assumption | refine below_drewN ?_ _ | refine Below.drew ?_ | refine Below.alloc ?_ ?_ _ | refine Below.setCell ?_ ?_ _)) | go_size))
  have hz1 := hb1.size
  (try simp at hz1)
  clear hb1
  replace cR := R1.cell
  replace fR := R1.frozen
  replace zR := R1.size
  go_wp2_with (first | (refine store_blk 50 (.tmp 6) (.tmp 35) (w.heap.size) #[.int .u64 0, .int .i64 0, .int .u16 0, .int .u16 0, .int .u16 0, .int .u16 0] #[.int .u64 id, .int .i64 l.length, .int .u16 k.a, .int .u16 k.b, .int .u16 k.c, .int .u16 k.d] 50 (by rfl) (by rfl) (by rfl) (by rfl) (by (repeat' (first | (with_reducible (first | assumption | exact Blk.alloc_new _ _ _ (by first | rfl | (simp; done) | omega) | apply Blk.drewN | apply Blk.drew | apply Blk.alloc_old | apply Blk.set_same | apply Blk.set_other)) | (show (_ : Nat) ≠ _; first | omega | (simp; done) | (simp; omega)) | ((simp only [List.setIfInBounds_toArray, List.set_cons_succ, List.set_cons_zero]); (with_reducible exact rfl)) | (with_reducible exact rfl) | (show (_ : Array Value) = _; exact rfl)))) rfl (by kernel_rfl) (by simp [Value.oneCell']) ?_; intro v Bv kB kO hs; have gv : Below w.heap.size w v := kB _ _ (by first | (simp; done) | omega | (simp; omega)) (by (repeat' (first | (with_reducible (first | exact Below.refl _ _ | assumption | refine below_drewN ?_ _ | refine Below.drew ?_ | refine Below.alloc ?_ ?_ _ | refine Below.setCell ?_ ?_ _)) | go_size))); clear kB kO hs))
  refine bodyPost_ret (v := .tuple #[.agg #[.int .u64 id, .int .i64 l.length, .int .u16 k.a, .int .u16 k.b, .int .u16 k.c, .int .u16 k.d], .int .i64 0]) ?_ ?_ ?_
  · exact results_ct (w.heap.size) #[.int .u64 id, .int .i64 l.length, .int .u16 k.a, .int .u16 k.b, .int .u16 k.c, .int .u16 k.d] 50 _ _ _ _ Try.results27 (by rfl) (by rfl) Bv Try.underlying50 rfl (by kernel_rfl)
  · rfl
  · exact ⟨rfl, gv⟩
def fpE (l : List Int) (most : Int) : Int := if badR l = 0 then (if most < l.length ∨ 16384 < l.length then 26 else 0) else badR l
def fpV' (l : List Int) (id most : Int) : Value := .agg (if fpE l most = 0 then #[.int .u64 id, .int .i64 l.length, .int .u16 (fkV l).a, .int .u16 (fkV l).b, .int .u16 (fkV l).c, .int .u16 (fkV l).d] else #[.int .u64 0, .int .i64 0, .int .u16 0, .int .u16 0, .int .u16 0, .int .u16 0])
theorem flowPacket (l : List Int) (id most : Int) (w : World) (hl : Byt l) (hb : l.length ≤ 4611686018427387904) (hid : 0 ≤ id ∧ id ≤ 18446744073709551615) (hmo : -9223372036854775808 ≤ most ∧ most ≤ 9223372036854775807) :
    Calls Try.prog 27 #[.int .u64 id, SV l, .int .i64 most] w fun e w' => e = .returned (.tuple #[fpV' l id most, .int .i64 (fpE l most)]) ∧ Below w.heap.size w w' := by
  unfold fpV'
  by_cases h0 : badR l = 0
  · have KK := hide (show ∀ v, Calls Try.prog 26 #[SV l] v fun e w' => e = .returned (.tuple #[kv (fkV l), .int .i64 0]) ∧ Below v.heap.size v w' from fun v => by have h := flowKey l v hl hb; rw [h0] at h; exact h)
    by_cases h1 : most < l.length
    · have he : fpE l most = 26 := by unfold fpE; rw [if_pos h0, if_pos (.inl h1)]
      rw [he, if_neg (by omega)]; exact flowPacket_most l (fkV l) id most 0 w hid hmo hb h1 KK
    by_cases h2 : 16384 < l.length
    · have he : fpE l most = 26 := by unfold fpE; rw [if_pos h0, if_pos (.inr h2)]
      rw [he, if_neg (by omega)]; exact flowPacket_long l (fkV l) id most 0 w hid hmo hb h1 h2 KK
    · have he : fpE l most = 0 := by unfold fpE; rw [if_pos h0, if_neg (by omega)]
      rw [he, if_pos rfl]; exact flowPacket_ok l (fkV l) id most 0 w hid hmo hb h1 (by omega) KK
  · have he : fpE l most = badR l := by unfold fpE; rw [if_neg h0]
    rw [he, if_neg h0]
    exact flowPacket_bad l ⟨0, 0, 0, 0⟩ id most (badR l) w hid hmo hb h0 (hide fun v => by have h := flowKey l v hl hb; unfold fkV at h; rw [if_neg h0] at h; exact h)
end Go.Proofs.Ytljpiofpfankoaa
