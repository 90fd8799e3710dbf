/-
  The closed example of the law's package: true; packets' and keys' equality. Conditions: none.
-/
import Derived.Test.YtljpiofpfankoaaFlE
import Derived.Test.YtljpiofpfankoaaFlD
namespace Go.Proofs.Ytljpiofpfankoaa
open Go.RowKit Go.Sort
set_option linter.unusedVariables false
set_option linter.unusedSimpArgs false
theorem kconv4 (v : World) (B : Nat) (h0 : v.cell? ⟨B, 0, none⟩ = some (.int .u8 (intOf ((v.cell? ⟨B, 0, none⟩).getD undef)))) (h1 : v.cell? ⟨B, 1, none⟩ = some (.int .u8 (intOf ((v.cell? ⟨B, 1, none⟩).getD undef)))) (h2 : v.cell? ⟨B, 2, none⟩ = some (.int .u8 (intOf ((v.cell? ⟨B, 2, none⟩).getD undef)))) (h3 : v.cell? ⟨B, 3, none⟩ = some (.int .u8 (intOf ((v.cell? ⟨B, 3, none⟩).getD undef)))) :
    (convert 73 9 (.slice (some ⟨B, 0, none⟩) 4 4)).run Try.prog v = .ok (SV [intOf ((v.cell? ⟨B, 0, none⟩).getD undef), intOf ((v.cell? ⟨B, 1, none⟩).getD undef), intOf ((v.cell? ⟨B, 2, none⟩).getD undef), intOf ((v.cell? ⟨B, 3, none⟩).getD undef)]) v :=
  run_convert_bytes_arg (P := Try.prog) v 73 5 Try.underlying73 Try.underlying5 B 0 4 4 _ rfl (fun i hi => by
    have : i = 0 ∨ i = 1 ∨ i = 2 ∨ i = 3 := by omega
    rcases this with rfl | rfl | rfl | rfl
    · exact h0
    · exact h1
    · exact h2
    · exact h3) 9 Try.underlying9
theorem keq (k : K4) (v : World) : (binOp .eql 48 (kv k) (kv k)).run Try.prog v = .ok (.bool true) v := by
  rw [run_eql_struct, eqkIn 9998 k k]; simp [Result.andThen]
theorem kneq (k : K4) (v : World) : (binOp .neq 48 (kv k) (kv k)).run Try.prog v = .ok (.bool false) v := by
  rw [run_neq_struct, eqkIn 9998 k k]; simp [Result.andThen]
theorem u64_cell (k : Nat) (w : World) (x y : Int) : (Op.equalIn (k + 1) 43 (.int .u64 x) (.int .u64 y)).run Try.prog w = .ok (x == y) w := by simp [Op.equalIn, Try.underlying43, go_sem]
theorem i64_cell (k : Nat) (w : World) (x y : Int) : (Op.equalIn (k + 1) 3 (.int .i64 x) (.int .i64 y)).run Try.prog w = .ok (x == y) w := by simp [Op.equalIn, Try.underlying3, go_sem]
theorem pkeqIn (d : Nat) (x y : Int) (k : K4) (v : World) : (Op.equalIn (d + 4) 50 (.agg #[.int .u64 x, .int .i64 y, .int .u16 k.a, .int .u16 k.b, .int .u16 k.c, .int .u16 k.d]) (.agg #[.int .u64 x, .int .i64 y, .int .u16 k.a, .int .u16 k.b, .int .u16 k.c, .int .u16 k.d])).run Try.prog v = .ok true v := by
  have a1 : ∀ w, (isAgg 43).run Try.prog w = .ok false w := fun _ => by kernel_rfl
  have a2 : ∀ w, (isAgg 3).run Try.prog w = .ok false w := fun _ => by kernel_rfl
  have a3 : ∀ w, (isAgg 48).run Try.prog w = .ok true w := fun _ => by kernel_rfl
  have s1 : ∀ w, (sizeOf 43).run Try.prog w = .ok 1 w := fun _ => by kernel_rfl
  have s2 : ∀ w, (sizeOf 3).run Try.prog w = .ok 1 w := fun _ => by kernel_rfl
  have s3 : ∀ w, (sizeOf 48).run Try.prog w = .ok 4 w := fun _ => by kernel_rfl
  have e1 := fun w x y => u64_cell (d + 2) w x y
  have e2 := fun w x y => i64_cell (d + 2) w x y
  have e3 := fun w => eqkIn (d + 1) k k w
  simp only [decide_true] at e3
  rw [run_equalIn_struct _ (d + 3) 50 _ _ (by kernel_rfl) (by kernel_rfl)]
  simp [Program.fieldsOf, Try.underlying50, go_sem, part, a1, a2, a3, s1, s2, s3, e1, e2, e3]
theorem pkeq (x y : Int) (k : K4) (v : World) : (binOp .eql 50 (.agg #[.int .u64 x, .int .i64 y, .int .u16 k.a, .int .u16 k.b, .int .u16 k.c, .int .u16 k.d]) (.agg #[.int .u64 x, .int .i64 y, .int .u16 k.a, .int .u16 k.b, .int .u16 k.c, .int .u16 k.d])).run Try.prog v = .ok (.bool true) v := by
  rw [run_eql_struct, pkeqIn 9996 x y k]; rfl
def hN : HD := ⟨184, 0, 0, 0, 0, 17, 167772161, 167772162, []⟩
def SN : List Int := encR hN [0, 53, 3, 232]
def kN : K4 := ⟨4398, 53, 1000, 3⟩
theorem wN : wrongR hN 4 = 0 := by decide +kernel
theorem dN : badR SN = 0 := by decide +kernel
theorem kN_eq : fkV SN = kN := by decide +kernel
theorem lN : SN.length = 24 := by decide +kernel
theorem bN : Byt SN := by unfold Byt; decide +kernel
theorem okN : hN.ok := by unfold HD.ok hN Byt; decide +kernel
theorem p1N : fpE SN 100 = 0 := by decide +kernel
theorem p2N : fpE SN 23 = 26 := by decide +kernel
set_option maxRecDepth 100000 in
set_option maxHeartbeats 4000000 in
theorem names_true (w : World) :
    Calls Try.prog 29 #[] w fun e w' => e = .returned (.bool true) ∧ Below w.heap.size w w' := by
  have K0 := hide (show ∀ v, Calls Try.prog 31 #[.agg #[.int .u8 184, .int .u16 0, .int .u8 0, .int .u16 0, .int .u8 0, .int .u8 17, .int .u32 167772161, .int .u32 167772162, .string ⟨#[]⟩], SV [0, 53, 3, 232]] v fun e w' => e = .returned (.tuple #[SV SN, .int .i64 0]) ∧ Below v.heap.size v w' from fun v => by have h := ipEncode hN [0, 53, 3, 232] v okN (by decide) (by decide); rw [show wrongR hN ([0, 53, 3, 232] : List Int).length = 0 from wN, if_pos rfl] at h; exact h)
  have K1 := hide (show ∀ v, Calls Try.prog 26 #[SV SN] v fun e w' => e = .returned (.tuple #[.agg #[.int .u16 4398, .int .u16 53, .int .u16 1000, .int .u16 3], .int .i64 0]) ∧ Below v.heap.size v w' from fun v => by have h := flowKey SN v bN (by rw [lN]; decide); rw [kN_eq, dN] at h; exact h)
  have K2 := hide (show ∀ v, Calls Try.prog 27 #[.int .u64 7, SV SN, .int .i64 100] v fun e w' => e = .returned (.tuple #[.agg #[.int .u64 7, .int .i64 24, .int .u16 4398, .int .u16 53, .int .u16 1000, .int .u16 3], .int .i64 0]) ∧ Below v.heap.size v w' from fun v => by have h := flowPacket SN 7 100 v bN (by rw [lN]; decide) (by decide) (by decide); unfold fpV' at h; rw [p1N, if_pos rfl, kN_eq, lN] at h; exact h)
  have K3 := hide (show ∀ v, Calls Try.prog 27 #[.int .u64 7, SV SN, .int .i64 23] v fun e w' => e = .returned (.tuple #[.agg #[.int .u64 0, .int .i64 0, .int .u16 0, .int .u16 0, .int .u16 0, .int .u16 0], .int .i64 26]) ∧ Below v.heap.size v w' from fun v => by have h := flowPacket SN 7 23 v bN (by rw [lN]; decide) (by decide) (by decide); unfold fpV' at h; rw [p2N, if_neg (by decide)] at h; exact h)
  have k4 := kconv4; have ki := intOf_int
  have q1 : ∀ v, (binOp .eql 48 (.agg #[.int .u16 4398, .int .u16 53, .int .u16 1000, .int .u16 3]) (.agg #[.int .u16 4398, .int .u16 53, .int .u16 1000, .int .u16 3])).run Try.prog v = .ok (.bool true) v := keq kN
  have q2 : ∀ v, (binOp .eql 50 (.agg #[.int .u64 7, .int .i64 24, .int .u16 4398, .int .u16 53, .int .u16 1000, .int .u16 3]) (.agg #[.int .u64 7, .int .i64 24, .int .u16 4398, .int .u16 53, .int .u16 1000, .int .u16 3])).run Try.prog v = .ok (.bool true) v := pkeq 7 24 kN
  go_enter Try.func29, Try.ntmps29
  go_wp2_with fail
  refine (K0.out _).mono ?_
  rintro e w1 ⟨rfl, hb1⟩
  have g1 : Below w.heap.size w w1 := by refine Below.trans ?_ (hb1.mono ?_) <;> (repeat' (first | (with_reducible (first | exact Below.refl _ _ | assumption | refine below_drewN ?_ _ | refine Below.drew ?_ | refine Below.alloc ?_ ?_ _ | refine Below.setCell ?_ ?_ _)) | go_size))
  have hz1 := hb1.size
  (try simp at hz1)
  clear hb1
  go_wp2_with fail
  refine (K1.out _).mono ?_
  rintro e w2 ⟨rfl, hb2⟩
  have g2 : Below w.heap.size w w2 := by refine Below.trans ?_ (hb2.mono ?_) <;> (repeat' (first | (with_reducible (first | exact Below.refl _ _ | assumption | refine below_drewN ?_ _ | refine Below.drew ?_ | refine Below.alloc ?_ ?_ _ | refine Below.setCell ?_ ?_ _)) | go_size))
  have hz2 := hb2.size
  (try simp at hz2)
  clear hb2
  go_wp2_with fail
  refine (K2.out _).mono ?_
  rintro e w3 ⟨rfl, hb3⟩
  have Q3 : Blk w3 (w2.heap.size) #[.int .u16 4398, .int .u16 53, .int .u16 1000, .int .u16 3] 48 := Blk.below (by (repeat' (first | (with_reducible (first | assumption | exact Blk.alloc_new _ _ _ (by first | rfl | (simp; done) | omega) | apply Blk.drewN | apply Blk.drew | apply Blk.alloc_old | apply Blk.set_same | apply Blk.set_other)) | (show (_ : Nat) ≠ _; first | omega | (simp; done) | (simp; omega)) | ((simp only [List.setIfInBounds_toArray, List.set_cons_succ, List.set_cons_zero]); (with_reducible exact rfl)) | (with_reducible exact rfl) | (show (_ : Array Value) = _; exact rfl)))) hb3 (by first | (simp; done) | omega | (simp; omega))
  have g3 : Below w.heap.size w w3 := by refine Below.trans ?_ (hb3.mono ?_) <;> (repeat' (first | (with_reducible (first | exact Below.refl _ _ | assumption | refine below_drewN ?_ _ | refine Below.drew ?_ | refine Below.alloc ?_ ?_ _ | refine Below.setCell ?_ ?_ _)) | go_size))
  have hz3 := hb3.size
  (try simp at hz3)
  clear hb3
  replace cQ := Q3.cell
  replace fQ := Q3.frozen
  replace zQ := Q3.size
  go_wp2_with fail
  refine (K3.out _).mono ?_
  rintro e w4 ⟨rfl, hb4⟩
  have Q4 : Blk w4 (w2.heap.size) #[.int .u16 4398, .int .u16 53, .int .u16 1000, .int .u16 3] 48 := Blk.below (by (repeat' (first | (with_reducible (first | assumption | exact Blk.alloc_new _ _ _ (by first | rfl | (simp; done) | omega) | apply Blk.drewN | apply Blk.drew | apply Blk.alloc_old | apply Blk.set_same | apply Blk.set_other)) | (show (_ : Nat) ≠ _; first | omega | (simp; done) | (simp; omega)) | ((simp only [List.setIfInBounds_toArray, List.set_cons_succ, List.set_cons_zero]); (with_reducible exact rfl)) | (with_reducible exact rfl) | (show (_ : Array Value) = _; exact rfl)))) hb4 (by first | (simp; done) | omega | (simp; omega))
  have P4 : Blk w4 (w3.heap.size) #[.int .u64 7, .int .i64 24, .int .u16 4398, .int .u16 53, .int .u16 1000, .int .u16 3] 50 := Blk.below (by (repeat' (first | (with_reducible (first | assumption | exact Blk.alloc_new _ _ _ (by first | rfl | (simp; done) | omega) | apply Blk.drewN | apply Blk.drew | apply Blk.alloc_old | apply Blk.set_same | apply Blk.set_other)) | (show (_ : Nat) ≠ _; first | omega | (simp; done) | (simp; omega)) | ((simp only [List.setIfInBounds_toArray, List.set_cons_succ, List.set_cons_zero]); (with_reducible exact rfl)) | (with_reducible exact rfl) | (show (_ : Array Value) = _; exact rfl)))) hb4 (by first | (simp; done) | omega | (simp; omega))
  have g4 : Below w.heap.size w w4 := by refine Below.trans ?_ (hb4.mono ?_) <;> (repeat' (first | (with_reducible (first | exact Below.refl _ _ | assumption | refine below_drewN ?_ _ | refine Below.drew ?_ | refine Below.alloc ?_ ?_ _ | refine Below.setCell ?_ ?_ _)) | go_size))
  have hz4 := hb4.size
  (try simp at hz4)
  clear hb4
  replace cQ := Q4.cell
  replace fQ := Q4.frozen
  replace zQ := Q4.size
  replace cP := P4.cell
  replace fP := P4.frozen
  replace zP := P4.size
  go_upto_region 6 with (fail)
  refine wp_forget (fun v => Below w.heap.size w v ∧ Blk v (w2.heap.size) #[.int .u16 4398, .int .u16 53, .int .u16 1000, .int .u16 3] 48 ∧ Blk v (w3.heap.size) #[.int .u64 7, .int .i64 24, .int .u16 4398, .int .u16 53, .int .u16 1000, .int .u16 3] 50) ⟨by (repeat' (first | (with_reducible (first | exact Below.refl _ _ | assumption | refine below_drewN ?_ _ | refine Below.drew ?_ | refine Below.alloc ?_ ?_ _ | refine Below.setCell ?_ ?_ _)) | go_size)), by (repeat' (first | (with_reducible (first | assumption | exact Blk.alloc_new _ _ _ (by first | rfl | (simp; done) | omega) | apply Blk.drewN | apply Blk.drew | apply Blk.alloc_old | apply Blk.set_same | apply Blk.set_other)) | (show (_ : Nat) ≠ _; first | omega | (simp; done) | (simp; omega)) | ((simp only [List.setIfInBounds_toArray, List.set_cons_succ, List.set_cons_zero]); (with_reducible exact rfl)) | (with_reducible exact rfl) | (show (_ : Array Value) = _; exact rfl))), by (repeat' (first | (with_reducible (first | assumption | exact Blk.alloc_new _ _ _ (by first | rfl | (simp; done) | omega) | apply Blk.drewN | apply Blk.drew | apply Blk.alloc_old | apply Blk.set_same | apply Blk.set_other)) | (show (_ : Nat) ≠ _; first | omega | (simp; done) | (simp; omega)) | ((simp only [List.setIfInBounds_toArray, List.set_cons_succ, List.set_cons_zero]); (with_reducible exact rfl)) | (with_reducible exact rfl) | (show (_ : Array Value) = _; exact rfl)))⟩ ?_
  rintro w5 ⟨g5, Q5, P5⟩
  have hz5 := g5.size
  replace cQ := Q5.cell
  replace fQ := Q5.frozen
  replace zQ := Q5.size
  replace cP := P5.cell
  replace fP := P5.frozen
  replace zP := P5.size
  go_wp2_with fail
  refine (fNew _).mono ?_
  rintro e w6 ⟨rfl, M6, T6, hb6⟩
  have Q6 := Blk.below Q5 hb6 Q5.size
  have P6 := Blk.below P5 hb6 P5.size
  have g6 : Below w.heap.size w w6 := g5.trans (hb6.mono g5.size)
  have hz6 := g6.size
  have hs6 := T6.size
  have hq5 := Q5.size; have hp5 := P5.size
  replace cQ := Q6.cell; replace fQ := Q6.frozen; replace zQ := Q6.size
  replace cP := P6.cell; replace fP := P6.frozen; replace zP := P6.size
  go_wp2_with fail
  refine (fAdd1 (w5.heap.size + 1) (w5.heap.size) 0 kN 24 _ (by decide) T6 M6 (by omega)).mono ?_
  rintro e w7 ⟨rfl, M7, ho7, hb7⟩
  have Q7 : Blk w7 (w2.heap.size) #[.int .u16 4398, .int .u16 53, .int .u16 1000, .int .u16 3] 48 := (ho7 _ Q6.size (by omega)).trans Q6
  have P7 : Blk w7 (w3.heap.size) #[.int .u64 7, .int .i64 24, .int .u16 4398, .int .u16 53, .int .u16 1000, .int .u16 3] 50 := (ho7 _ P6.size (by omega)).trans P6
  have T7 : Blk w7 (w5.heap.size + 1) #[.map (some (w5.heap.size))] 132 := (ho7 _ T6.size (by omega)).trans T6
  have g7 : Below w.heap.size w w7 := g6.trans (hb7.mono g5.size)
  have hz7 := g7.size
  replace cQ := Q7.cell; replace fQ := Q7.frozen; replace zQ := Q7.size
  replace cP := P7.cell; replace fP := P7.frozen; replace zP := P7.size
  go_wp2_with fail
  refine (fLen (w5.heap.size + 1) (w5.heap.size) [⟨kN, 1, 24⟩] _ T7 M7).mono ?_
  rintro e u8 ⟨rfl, rfl⟩
  go_wp2_with fail
  refine (fGet (w5.heap.size + 1) (w5.heap.size) 0 [⟨kN, 1, 24⟩] kN ⟨kN, 1, 24⟩ _ T7 M7 rfl).mono ?_
  rintro e w9 ⟨rfl, hb9⟩
  have g9 : Below w.heap.size w w9 := g7.trans (hb9.mono g7.size)
  have hfld : ∀ v, (Instr.field 88 (.agg #[.int .u16 kN.a, .int .u16 kN.b, .int .u16 kN.c, .int .u16 kN.d, .int .u64 1, .int .u64 24]) 2).run Try.prog v = .ok (.int .u64 24) v := fun _ => by kernel_rfl
  go_wp2
  go_ret
  exact ⟨rfl, by (repeat' (first | (with_reducible (first | exact Below.refl _ _ | assumption | refine below_drewN ?_ _ | refine Below.drew ?_ | refine Below.alloc ?_ ?_ _ | refine Below.setCell ?_ ?_ _)) | go_size))⟩
end Go.Proofs.Ytljpiofpfankoaa
