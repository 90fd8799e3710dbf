/-
  Tables of flows: Add, in general. Conditions: the table's map is known.
-/
import Derived.Test.YtljpiofpfankoaaFlS
namespace Go.Proofs.Ytljpiofpfankoaa
open Go.RowKit Go.Sort
set_option linter.unusedVariables false
set_option linter.unusedSimpArgs false
theorem lookS {w : World} {M i : Nat} {L : List FW} {k : K4} {g : FW} (h : MapAt w M L) (hf : findF L k 0 = some (i, g)) : (Instr.lookup 130 (.map (some M)) (kv k) true).run Try.prog w = .ok (.tuple #[fv g, .bool true]) w := by
  have := run_lookupF h k; rw [hf] at this; exact this
theorem lookN {w : World} {M : Nat} {L : List FW} {k : K4} (h : MapAt w M L) (hf : findF L k 0 = none) : (Instr.lookup 130 (.map (some M)) (kv k) true).run Try.prog w = .ok (.tuple #[fv ⟨⟨0, 0, 0, 0⟩, 0, 0⟩, .bool false]) w := by
  have := run_lookupF h k; rw [hf] at this; exact this
theorem stays {w v : World} {M : Nat} {L : List FW} (g : Below w.heap.size w v) (hM : MapW w M L) (z : M < w.heap.size) (z2 : M ≤ w.heap.size) : MapW v M L ∧ (∀ b, b < w.heap.size → b ≠ M → v.heap[b]? = w.heap[b]?) ∧ Below M w v :=
  ⟨hM.of_eq (g.block M z), fun b hb _ => g.block b hb, g.mono z2⟩
set_option maxRecDepth 100000 in
set_option maxHeartbeats 4000000 in
theorem fAdd_neg1 (T M : Nat) (L : List FW) (k : K4) (n : Int) (i : Nat) (g : FW) (w : World) (hT : Blk w T #[.map (some M)] 132) (hM : MapW w M L) (hTM : M < T) (hf : findF L k 0 = some (i, g)) (hn : n < 0) :
    Calls Try.prog 33 #[.pointer (some ⟨T, 0, none⟩), .agg #[.int .u16 k.a, .int .u16 k.b, .int .u16 k.c, .int .u16 k.d], .int .i64 n] w fun e w' => e = .returned (.int .i64 26) ∧ MapW w' M (L) ∧ (∀ b, b < w.heap.size → b ≠ M → w'.heap[b]? = w.heap[b]?) ∧ Below M w w' := by
  have cT := hT.cell; have zT := hT.size
  have zM : M < w.heap.size := by omega
  have d1 : decide (n < 0) = true := decide_eq_true (by omega)
  go_enter Try.func33, Try.ntmps33
  go_upto_region 3 with (fail)
  refine wp_forget (fun v => Below w.heap.size w v ∧ Blk v T #[.map (some M)] 132 ∧ Blk v (w.heap.size) #[.int .u16 k.a, .int .u16 k.b, .int .u16 k.c, .int .u16 k.d] 48 ∧ v.heap[M]? = w.heap[M]?) ⟨by (repeat' (first | (with_reducible (first | exact Below.refl _ _ | assumption | refine below_drewN ?_ _ | refine Below.drew ?_ | refine Below.alloc ?_ ?_ _ | refine Below.setCell ?_ ?_ _)) | go_size)), by (repeat' (first | (with_reducible (first | assumption | exact Blk.alloc_new _ _ _ (by first | rfl | (simp; done) | omega) | apply Blk.drewN | apply Blk.drew | apply Blk.alloc_old | apply Blk.set_same | apply Blk.set_other)) | (show (_ : Nat) ≠ _; first | omega | (simp; done) | (simp; omega)) | ((simp only [List.setIfInBounds_toArray, List.set_cons_succ, List.set_cons_zero]); (with_reducible exact rfl)) | (with_reducible exact rfl) | (show (_ : Array Value) = _; exact rfl))), by (repeat' (first | (with_reducible (first | assumption | exact Blk.alloc_new _ _ _ (by first | rfl | (simp; done) | omega) | apply Blk.drewN | apply Blk.drew | apply Blk.alloc_old | apply Blk.set_same | apply Blk.set_other)) | (show (_ : Nat) ≠ _; first | omega | (simp; done) | (simp; omega)) | ((simp only [List.setIfInBounds_toArray, List.set_cons_succ, List.set_cons_zero]); (with_reducible exact rfl)) | (with_reducible exact rfl) | (show (_ : Array Value) = _; exact rfl))), by rw [hpa _ zM]⟩ ?_
  rintro w1 ⟨g1, T1, K1, M1⟩
  have hz1 := g1.size
  replace cT := T1.cell; have fT := T1.frozen; replace zT := T1.size
  have cK := K1.cell; have fK := K1.frozen; have zK := K1.size
  have zM1 : M < w1.heap.size := by omega
  have MW1 := hM.of_eq M1
  have l1 : (Instr.lookup 130 (.map (some M)) (kv k) true).run Try.prog w1.drew = .ok (.tuple #[fv g, .bool true]) w1.drew := lookS (MW1.at.of_eq rfl) hf
  have l2 : ∀ o, (Instr.lookup 130 (.map (some M)) (kv k) true).run Try.prog (w1.alloc o).drew = .ok (.tuple #[fv g, .bool true]) (w1.alloc o).drew := fun o => lookS (MW1.at.of_eq (by show (w1.alloc o).heap[M]? = _; rw [hpa o zM1])) hf
  have l3 : ∀ o, (Instr.lookup 130 (.map (some M)) (kv k) true).run Try.prog (w1.drew.alloc o) = .ok (.tuple #[fv g, .bool true]) (w1.drew.alloc o) := fun o => lookS (MW1.at.of_eq (hpa o (by simpa using zM1))) hf
  have n2 : ∀ o, (Builtin.len_ #[130] 3 #[.map (some M)]).run Try.prog (w1.alloc o).drew = .ok (.int .i64 L.length) (w1.alloc o).drew := fun o => run_lenF (MW1.at.of_eq (by show (w1.alloc o).heap[M]? = _; rw [hpa o zM1]))
  have n3 : ∀ o, (Builtin.len_ #[130] 3 #[.map (some M)]).run Try.prog (w1.drew.alloc o) = .ok (.int .i64 L.length) (w1.drew.alloc o) := fun o => run_lenF (MW1.at.of_eq (hpa o (by simpa using zM1)))
  go_region
  all_goals
    go_wp2
    go_ret
    refine ⟨rfl, ?_⟩
    refine stays ?_ hM zM (by omega)
    (repeat' (first | (with_reducible (first | exact Below.refl _ _ | assumption | refine below_drewN ?_ _ | refine Below.drew ?_ | refine Below.alloc ?_ ?_ _ | refine Below.setCell ?_ ?_ _)) | go_size))
set_option maxRecDepth 100000 in
set_option maxHeartbeats 4000000 in
theorem fAdd_neg0 (T M : Nat) (L : List FW) (k : K4) (n : Int) (w : World) (hT : Blk w T #[.map (some M)] 132) (hM : MapW w M L) (hTM : M < T) (hf : findF L k 0 = none) (hn : n < 0) :
    Calls Try.prog 33 #[.pointer (some ⟨T, 0, none⟩), .agg #[.int .u16 k.a, .int .u16 k.b, .int .u16 k.c, .int .u16 k.d], .int .i64 n] w fun e w' => e = .returned (.int .i64 26) ∧ MapW w' M (L) ∧ (∀ b, b < w.heap.size → b ≠ M → w'.heap[b]? = w.heap[b]?) ∧ Below M w w' := by
  have cT := hT.cell; have zT := hT.size
  have zM : M < w.heap.size := by omega
  have d1 : decide (n < 0) = true := decide_eq_true (by omega)
  go_enter Try.func33, Try.ntmps33
  go_upto_region 3 with (fail)
  refine wp_forget (fun v => Below w.heap.size w v ∧ Blk v T #[.map (some M)] 132 ∧ Blk v (w.heap.size) #[.int .u16 k.a, .int .u16 k.b, .int .u16 k.c, .int .u16 k.d] 48 ∧ v.heap[M]? = w.heap[M]?) ⟨by (repeat' (first | (with_reducible (first | exact Below.refl _ _ | assumption | refine below_drewN ?_ _ | refine Below.drew ?_ | refine Below.alloc ?_ ?_ _ | refine Below.setCell ?_ ?_ _)) | go_size)), by (repeat' (first | (with_reducible (first | assumption | exact Blk.alloc_new _ _ _ (by first | rfl | (simp; done) | omega) | apply Blk.drewN | apply Blk.drew | apply Blk.alloc_old | apply Blk.set_same | apply Blk.set_other)) | (show (_ : Nat) ≠ _; first | omega | (simp; done) | (simp; omega)) | ((simp only [List.setIfInBounds_toArray, List.set_cons_succ, List.set_cons_zero]); (with_reducible exact rfl)) | (with_reducible exact rfl) | (show (_ : Array Value) = _; exact rfl))), by (repeat' (first | (with_reducible (first | assumption | exact Blk.alloc_new _ _ _ (by first | rfl | (simp; done) | omega) | apply Blk.drewN | apply Blk.drew | apply Blk.alloc_old | apply Blk.set_same | apply Blk.set_other)) | (show (_ : Nat) ≠ _; first | omega | (simp; done) | (simp; omega)) | ((simp only [List.setIfInBounds_toArray, List.set_cons_succ, List.set_cons_zero]); (with_reducible exact rfl)) | (with_reducible exact rfl) | (show (_ : Array Value) = _; exact rfl))), by rw [hpa _ zM]⟩ ?_
  rintro w1 ⟨g1, T1, K1, M1⟩
  have hz1 := g1.size
  replace cT := T1.cell; have fT := T1.frozen; replace zT := T1.size
  have cK := K1.cell; have fK := K1.frozen; have zK := K1.size
  have zM1 : M < w1.heap.size := by omega
  have MW1 := hM.of_eq M1
  have l1 : (Instr.lookup 130 (.map (some M)) (kv k) true).run Try.prog w1.drew = .ok (.tuple #[fv ⟨⟨0, 0, 0, 0⟩, 0, 0⟩, .bool false]) w1.drew := lookN (MW1.at.of_eq rfl) hf
  have l2 : ∀ o, (Instr.lookup 130 (.map (some M)) (kv k) true).run Try.prog (w1.alloc o).drew = .ok (.tuple #[fv ⟨⟨0, 0, 0, 0⟩, 0, 0⟩, .bool false]) (w1.alloc o).drew := fun o => lookN (MW1.at.of_eq (by show (w1.alloc o).heap[M]? = _; rw [hpa o zM1])) hf
  have l3 : ∀ o, (Instr.lookup 130 (.map (some M)) (kv k) true).run Try.prog (w1.drew.alloc o) = .ok (.tuple #[fv ⟨⟨0, 0, 0, 0⟩, 0, 0⟩, .bool false]) (w1.drew.alloc o) := fun o => lookN (MW1.at.of_eq (hpa o (by simpa using zM1))) hf
  have n2 : ∀ o, (Builtin.len_ #[130] 3 #[.map (some M)]).run Try.prog (w1.alloc o).drew = .ok (.int .i64 L.length) (w1.alloc o).drew := fun o => run_lenF (MW1.at.of_eq (by show (w1.alloc o).heap[M]? = _; rw [hpa o zM1]))
  have n3 : ∀ o, (Builtin.len_ #[130] 3 #[.map (some M)]).run Try.prog (w1.drew.alloc o) = .ok (.int .i64 L.length) (w1.drew.alloc o) := fun o => run_lenF (MW1.at.of_eq (hpa o (by simpa using zM1)))
  go_region
  all_goals
    go_wp2
    go_ret
    refine ⟨rfl, ?_⟩
    refine stays ?_ hM zM (by omega)
    (repeat' (first | (with_reducible (first | exact Below.refl _ _ | assumption | refine below_drewN ?_ _ | refine Below.drew ?_ | refine Below.alloc ?_ ?_ _ | refine Below.setCell ?_ ?_ _)) | go_size))
set_option maxRecDepth 100000 in
set_option maxHeartbeats 4000000 in
theorem fAdd_full (T M : Nat) (L : List FW) (k : K4) (n : Int) (w : World) (hT : Blk w T #[.map (some M)] 132) (hM : MapW w M L) (hTM : M < T) (hf : findF L k 0 = none) (hn : 0 ≤ n) (hl : L.length = 256) :
    Calls Try.prog 33 #[.pointer (some ⟨T, 0, none⟩), .agg #[.int .u16 k.a, .int .u16 k.b, .int .u16 k.c, .int .u16 k.d], .int .i64 n] w fun e w' => e = .returned (.int .i64 5) ∧ MapW w' M (L) ∧ (∀ b, b < w.heap.size → b ≠ M → w'.heap[b]? = w.heap[b]?) ∧ Below M w w' := by
  have cT := hT.cell; have zT := hT.size
  have zM : M < w.heap.size := by omega
  have d1 : decide (n < 0) = false := decide_eq_false (by omega); have d2 : ((L.length : Int) == 256) = true := beq_iff_eq.2 (by omega); have d2n : (L.length == 256) = true := beq_iff_eq.2 (by omega)
  go_enter Try.func33, Try.ntmps33
  go_upto_region 3 with (fail)
  refine wp_forget (fun v => Below w.heap.size w v ∧ Blk v T #[.map (some M)] 132 ∧ Blk v (w.heap.size) #[.int .u16 k.a, .int .u16 k.b, .int .u16 k.c, .int .u16 k.d] 48 ∧ v.heap[M]? = w.heap[M]?) ⟨by (repeat' (first | (with_reducible (first | exact Below.refl _ _ | assumption | refine below_drewN ?_ _ | refine Below.drew ?_ | refine Below.alloc ?_ ?_ _ | refine Below.setCell ?_ ?_ _)) | go_size)), by (repeat' (first | (with_reducible (first | assumption | exact Blk.alloc_new _ _ _ (by first | rfl | (simp; done) | omega) | apply Blk.drewN | apply Blk.drew | apply Blk.alloc_old | apply Blk.set_same | apply Blk.set_other)) | (show (_ : Nat) ≠ _; first | omega | (simp; done) | (simp; omega)) | ((simp only [List.setIfInBounds_toArray, List.set_cons_succ, List.set_cons_zero]); (with_reducible exact rfl)) | (with_reducible exact rfl) | (show (_ : Array Value) = _; exact rfl))), by (repeat' (first | (with_reducible (first | assumption | exact Blk.alloc_new _ _ _ (by first | rfl | (simp; done) | omega) | apply Blk.drewN | apply Blk.drew | apply Blk.alloc_old | apply Blk.set_same | apply Blk.set_other)) | (show (_ : Nat) ≠ _; first | omega | (simp; done) | (simp; omega)) | ((simp only [List.setIfInBounds_toArray, List.set_cons_succ, List.set_cons_zero]); (with_reducible exact rfl)) | (with_reducible exact rfl) | (show (_ : Array Value) = _; exact rfl))), by rw [hpa _ zM]⟩ ?_
  rintro w1 ⟨g1, T1, K1, M1⟩
  have hz1 := g1.size
  replace cT := T1.cell; have fT := T1.frozen; replace zT := T1.size
  have cK := K1.cell; have fK := K1.frozen; have zK := K1.size
  have zM1 : M < w1.heap.size := by omega
  have MW1 := hM.of_eq M1
  have l1 : (Instr.lookup 130 (.map (some M)) (kv k) true).run Try.prog w1.drew = .ok (.tuple #[fv ⟨⟨0, 0, 0, 0⟩, 0, 0⟩, .bool false]) w1.drew := lookN (MW1.at.of_eq rfl) hf
  have l2 : ∀ o, (Instr.lookup 130 (.map (some M)) (kv k) true).run Try.prog (w1.alloc o).drew = .ok (.tuple #[fv ⟨⟨0, 0, 0, 0⟩, 0, 0⟩, .bool false]) (w1.alloc o).drew := fun o => lookN (MW1.at.of_eq (by show (w1.alloc o).heap[M]? = _; rw [hpa o zM1])) hf
  have l3 : ∀ o, (Instr.lookup 130 (.map (some M)) (kv k) true).run Try.prog (w1.drew.alloc o) = .ok (.tuple #[fv ⟨⟨0, 0, 0, 0⟩, 0, 0⟩, .bool false]) (w1.drew.alloc o) := fun o => lookN (MW1.at.of_eq (hpa o (by simpa using zM1))) hf
  have n2 : ∀ o, (Builtin.len_ #[130] 3 #[.map (some M)]).run Try.prog (w1.alloc o).drew = .ok (.int .i64 L.length) (w1.alloc o).drew := fun o => run_lenF (MW1.at.of_eq (by show (w1.alloc o).heap[M]? = _; rw [hpa o zM1]))
  have n3 : ∀ o, (Builtin.len_ #[130] 3 #[.map (some M)]).run Try.prog (w1.drew.alloc o) = .ok (.int .i64 L.length) (w1.drew.alloc o) := fun o => run_lenF (MW1.at.of_eq (hpa o (by simpa using zM1)))
  go_region
  all_goals
    go_wp2
    go_ret
    refine ⟨rfl, ?_⟩
    refine stays ?_ hM zM (by omega)
    (repeat' (first | (with_reducible (first | exact Below.refl _ _ | assumption | refine below_drewN ?_ _ | refine Below.drew ?_ | refine Below.alloc ?_ ?_ _ | refine Below.setCell ?_ ?_ _)) | go_size))
set_option maxRecDepth 100000 in
set_option maxHeartbeats 4000000 in
theorem fAdd_new (T M : Nat) (L : List FW) (k : K4) (n : Int) (w : World) (hT : Blk w T #[.map (some M)] 132) (hM : MapW w M L) (hTM : M < T) (hf : findF L k 0 = none) (hn : 0 ≤ n ∧ n ≤ 9223372036854775807) (hl : L.length ≠ 256) :
    Calls Try.prog 33 #[.pointer (some ⟨T, 0, none⟩), .agg #[.int .u16 k.a, .int .u16 k.b, .int .u16 k.c, .int .u16 k.d], .int .i64 n] w fun e w' => e = .returned (.int .i64 0) ∧ MapW w' M (L ++ [⟨k, 1, n⟩]) ∧ (∀ b, b < w.heap.size → b ≠ M → w'.heap[b]? = w.heap[b]?) ∧ Below M w w' := by
  have cT := hT.cell; have zT := hT.size
  have zM : M < w.heap.size := by omega
  have d1 : decide (n < 0) = false := decide_eq_false (by omega); have d2 : ((L.length : Int) == 256) = false := beq_eq_false_iff_ne.2 (by omega); have d2n : (L.length == 256) = false := beq_eq_false_iff_ne.2 (by omega); have hu : IntKind.u64.wrap n = n := IntWalk.u64_in _ ⟨by omega, by omega⟩
  go_enter Try.func33, Try.ntmps33
  go_upto_region 3 with (fail)
  refine wp_forget (fun v => Below w.heap.size w v ∧ Blk v T #[.map (some M)] 132 ∧ Blk v (w.heap.size) #[.int .u16 k.a, .int .u16 k.b, .int .u16 k.c, .int .u16 k.d] 48 ∧ v.heap[M]? = w.heap[M]?) ⟨by (repeat' (first | (with_reducible (first | exact Below.refl _ _ | assumption | refine below_drewN ?_ _ | refine Below.drew ?_ | refine Below.alloc ?_ ?_ _ | refine Below.setCell ?_ ?_ _)) | go_size)), by (repeat' (first | (with_reducible (first | assumption | exact Blk.alloc_new _ _ _ (by first | rfl | (simp; done) | omega) | apply Blk.drewN | apply Blk.drew | apply Blk.alloc_old | apply Blk.set_same | apply Blk.set_other)) | (show (_ : Nat) ≠ _; first | omega | (simp; done) | (simp; omega)) | ((simp only [List.setIfInBounds_toArray, List.set_cons_succ, List.set_cons_zero]); (with_reducible exact rfl)) | (with_reducible exact rfl) | (show (_ : Array Value) = _; exact rfl))), by (repeat' (first | (with_reducible (first | assumption | exact Blk.alloc_new _ _ _ (by first | rfl | (simp; done) | omega) | apply Blk.drewN | apply Blk.drew | apply Blk.alloc_old | apply Blk.set_same | apply Blk.set_other)) | (show (_ : Nat) ≠ _; first | omega | (simp; done) | (simp; omega)) | ((simp only [List.setIfInBounds_toArray, List.set_cons_succ, List.set_cons_zero]); (with_reducible exact rfl)) | (with_reducible exact rfl) | (show (_ : Array Value) = _; exact rfl))), by rw [hpa _ zM]⟩ ?_
  rintro w1 ⟨g1, T1, K1, M1⟩
  have hz1 := g1.size
  replace cT := T1.cell; have fT := T1.frozen; replace zT := T1.size
  have cK := K1.cell; have fK := K1.frozen; have zK := K1.size
  have zM1 : M < w1.heap.size := by omega
  have MW1 := hM.of_eq M1
  have l1 : (Instr.lookup 130 (.map (some M)) (kv k) true).run Try.prog w1.drew = .ok (.tuple #[fv ⟨⟨0, 0, 0, 0⟩, 0, 0⟩, .bool false]) w1.drew := lookN (MW1.at.of_eq rfl) hf
  have l2 : ∀ o, (Instr.lookup 130 (.map (some M)) (kv k) true).run Try.prog (w1.alloc o).drew = .ok (.tuple #[fv ⟨⟨0, 0, 0, 0⟩, 0, 0⟩, .bool false]) (w1.alloc o).drew := fun o => lookN (MW1.at.of_eq (by show (w1.alloc o).heap[M]? = _; rw [hpa o zM1])) hf
  have l3 : ∀ o, (Instr.lookup 130 (.map (some M)) (kv k) true).run Try.prog (w1.drew.alloc o) = .ok (.tuple #[fv ⟨⟨0, 0, 0, 0⟩, 0, 0⟩, .bool false]) (w1.drew.alloc o) := fun o => lookN (MW1.at.of_eq (hpa o (by simpa using zM1))) hf
  have n2 : ∀ o, (Builtin.len_ #[130] 3 #[.map (some M)]).run Try.prog (w1.alloc o).drew = .ok (.int .i64 L.length) (w1.alloc o).drew := fun o => run_lenF (MW1.at.of_eq (by show (w1.alloc o).heap[M]? = _; rw [hpa o zM1]))
  have n3 : ∀ o, (Builtin.len_ #[130] 3 #[.map (some M)]).run Try.prog (w1.drew.alloc o) = .ok (.int .i64 L.length) (w1.drew.alloc o) := fun o => run_lenF (MW1.at.of_eq (hpa o (by simpa using zM1)))
  go_region
  all_goals
    go_upto_region 8 with (fail)
    refine wp_forget (fun v => Below w.heap.size w v ∧ Blk v T #[.map (some M)] 132 ∧ Blk v (w.heap.size) #[.int .u16 k.a, .int .u16 k.b, .int .u16 k.c, .int .u16 k.d] 48 ∧ v.heap[M]? = w.heap[M]? ∧ Blk v (w1.heap.size) #[.int .u16 0, .int .u16 0, .int .u16 0, .int .u16 0, .int .u64 0, .int .u64 0] 88) ⟨by (repeat' (first | (with_reducible (first | exact Below.refl _ _ | assumption | refine below_drewN ?_ _ | refine Below.drew ?_ | refine Below.alloc ?_ ?_ _ | refine Below.setCell ?_ ?_ _)) | go_size)), by (repeat' (first | (with_reducible (first | assumption | exact Blk.alloc_new _ _ _ (by first | rfl | (simp; done) | omega) | apply Blk.drewN | apply Blk.drew | apply Blk.alloc_old | apply Blk.set_same | apply Blk.set_other)) | (show (_ : Nat) ≠ _; first | omega | (simp; done) | (simp; omega)) | ((simp only [List.setIfInBounds_toArray, List.set_cons_succ, List.set_cons_zero]); (with_reducible exact rfl)) | (with_reducible exact rfl) | (show (_ : Array Value) = _; exact rfl))), by (repeat' (first | (with_reducible (first | assumption | exact Blk.alloc_new _ _ _ (by first | rfl | (simp; done) | omega) | apply Blk.drewN | apply Blk.drew | apply Blk.alloc_old | apply Blk.set_same | apply Blk.set_other)) | (show (_ : Nat) ≠ _; first | omega | (simp; done) | (simp; omega)) | ((simp only [List.setIfInBounds_toArray, List.set_cons_succ, List.set_cons_zero]); (with_reducible exact rfl)) | (with_reducible exact rfl) | (show (_ : Array Value) = _; exact rfl))), ?_, by (repeat' (first | (with_reducible (first | assumption | exact Blk.alloc_new _ _ _ (by first | rfl | (simp; done) | omega) | apply Blk.drewN | apply Blk.drew | apply Blk.alloc_old | apply Blk.set_same | apply Blk.set_other)) | (show (_ : Nat) ≠ _; first | omega | (simp; done) | (simp; omega)) | ((simp only [List.setIfInBounds_toArray, List.set_cons_succ, List.set_cons_zero]); (with_reducible exact rfl)) | (with_reducible exact rfl) | (show (_ : Array Value) = _; exact rfl)))⟩ ?_
    · show (w1.alloc _).heap[M]? = _
      rw [hpa _ zM1]; exact M1
    rintro w2 ⟨g2, T2, K2, M2, F2⟩
    have hz2 := g2.size
    replace cT := T2.cell; replace fT := T2.frozen; replace zT := T2.size
    replace cK := K2.cell; replace fK := K2.frozen; replace zK := K2.size
    have cF := F2.cell; have fF := F2.frozen; have zF := F2.size
    clear l1 l2 l3 n2 n3
    obtain ⟨W', hW, hm, ho, hs, hbl⟩ := run_setW (w := w2.drew) (M := M) (L := L) (hM.of_eq M2) k ⟨k, 1, n⟩ rfl hf
    have hset : (Instr.mapUpdate 130 (.map (some M)) (.agg #[.int .u16 k.a, .int .u16 k.b, .int .u16 k.c, .int .u16 k.d]) (.agg #[.int .u16 k.a, .int .u16 k.b, .int .u16 k.c, .int .u16 k.d, .int .u64 1, .int .u64 n])).run Try.prog w2.drew = .ok () W' := hW
    go_region
    all_goals
      go_wp2
      go_ret
      refine ⟨rfl, hm, fun b hb hne => ?_, ((g2.mono (by omega)).drew).trans hbl⟩
      rw [ho b hne]; exact g2.block b hb
set_option maxRecDepth 100000 in
set_option maxHeartbeats 4000000 in
theorem fAdd_set (T M : Nat) (L : List FW) (k : K4) (n : Int) (i : Nat) (g : FW) (w : World) (hT : Blk w T #[.map (some M)] 132) (hM : MapW w M L) (hTM : M < T) (hf : findF L k 0 = some (i, g)) (hn : 0 ≤ n ∧ n ≤ 9223372036854775807) (P B : Int) (hP : IntKind.u64.wrap (g.p + 1) = P) (hB : IntKind.u64.wrap (g.b + n) = B) :
    Calls Try.prog 33 #[.pointer (some ⟨T, 0, none⟩), .agg #[.int .u16 k.a, .int .u16 k.b, .int .u16 k.c, .int .u16 k.d], .int .i64 n] w fun e w' => e = .returned (.int .i64 0) ∧ MapW w' M (L.set i ⟨k, P, B⟩) ∧ (∀ b, b < w.heap.size → b ≠ M → w'.heap[b]? = w.heap[b]?) ∧ Below M w w' := by
  have cT := hT.cell; have zT := hT.size
  have zM : M < w.heap.size := by omega
  have d1 : decide (n < 0) = false := decide_eq_false (by omega); have hu : IntKind.u64.wrap n = n := IntWalk.u64_in _ ⟨by omega, by omega⟩
  go_enter Try.func33, Try.ntmps33
  go_upto_region 3 with (fail)
  refine wp_forget (fun v => Below w.heap.size w v ∧ Blk v T #[.map (some M)] 132 ∧ Blk v (w.heap.size) #[.int .u16 k.a, .int .u16 k.b, .int .u16 k.c, .int .u16 k.d] 48 ∧ v.heap[M]? = w.heap[M]?) ⟨by (repeat' (first | (with_reducible (first | exact Below.refl _ _ | assumption | refine below_drewN ?_ _ | refine Below.drew ?_ | refine Below.alloc ?_ ?_ _ | refine Below.setCell ?_ ?_ _)) | go_size)), by (repeat' (first | (with_reducible (first | assumption | exact Blk.alloc_new _ _ _ (by first | rfl | (simp; done) | omega) | apply Blk.drewN | apply Blk.drew | apply Blk.alloc_old | apply Blk.set_same | apply Blk.set_other)) | (show (_ : Nat) ≠ _; first | omega | (simp; done) | (simp; omega)) | ((simp only [List.setIfInBounds_toArray, List.set_cons_succ, List.set_cons_zero]); (with_reducible exact rfl)) | (with_reducible exact rfl) | (show (_ : Array Value) = _; exact rfl))), by (repeat' (first | (with_reducible (first | assumption | exact Blk.alloc_new _ _ _ (by first | rfl | (simp; done) | omega) | apply Blk.drewN | apply Blk.drew | apply Blk.alloc_old | apply Blk.set_same | apply Blk.set_other)) | (show (_ : Nat) ≠ _; first | omega | (simp; done) | (simp; omega)) | ((simp only [List.setIfInBounds_toArray, List.set_cons_succ, List.set_cons_zero]); (with_reducible exact rfl)) | (with_reducible exact rfl) | (show (_ : Array Value) = _; exact rfl))), by rw [hpa _ zM]⟩ ?_
  rintro w1 ⟨g1, T1, K1, M1⟩
  have hz1 := g1.size
  replace cT := T1.cell; have fT := T1.frozen; replace zT := T1.size
  have cK := K1.cell; have fK := K1.frozen; have zK := K1.size
  have zM1 : M < w1.heap.size := by omega
  have MW1 := hM.of_eq M1
  have l1 : (Instr.lookup 130 (.map (some M)) (kv k) true).run Try.prog w1.drew = .ok (.tuple #[fv g, .bool true]) w1.drew := lookS (MW1.at.of_eq rfl) hf
  have l2 : ∀ o, (Instr.lookup 130 (.map (some M)) (kv k) true).run Try.prog (w1.alloc o).drew = .ok (.tuple #[fv g, .bool true]) (w1.alloc o).drew := fun o => lookS (MW1.at.of_eq (by show (w1.alloc o).heap[M]? = _; rw [hpa o zM1])) hf
  have l3 : ∀ o, (Instr.lookup 130 (.map (some M)) (kv k) true).run Try.prog (w1.drew.alloc o) = .ok (.tuple #[fv g, .bool true]) (w1.drew.alloc o) := fun o => lookS (MW1.at.of_eq (hpa o (by simpa using zM1))) hf
  have n2 : ∀ o, (Builtin.len_ #[130] 3 #[.map (some M)]).run Try.prog (w1.alloc o).drew = .ok (.int .i64 L.length) (w1.alloc o).drew := fun o => run_lenF (MW1.at.of_eq (by show (w1.alloc o).heap[M]? = _; rw [hpa o zM1]))
  have n3 : ∀ o, (Builtin.len_ #[130] 3 #[.map (some M)]).run Try.prog (w1.drew.alloc o) = .ok (.int .i64 L.length) (w1.drew.alloc o) := fun o => run_lenF (MW1.at.of_eq (hpa o (by simpa using zM1)))
  go_region
  all_goals
    go_upto_region 8 with (fail)
    refine wp_forget (fun v => Below w.heap.size w v ∧ Blk v T #[.map (some M)] 132 ∧ Blk v (w.heap.size) #[.int .u16 k.a, .int .u16 k.b, .int .u16 k.c, .int .u16 k.d] 48 ∧ v.heap[M]? = w.heap[M]? ∧ Blk v (w1.heap.size) #[.int .u16 g.k.a, .int .u16 g.k.b, .int .u16 g.k.c, .int .u16 g.k.d, .int .u64 g.p, .int .u64 g.b] 88) ⟨by (repeat' (first | (with_reducible (first | exact Below.refl _ _ | assumption | refine below_drewN ?_ _ | refine Below.drew ?_ | refine Below.alloc ?_ ?_ _ | refine Below.setCell ?_ ?_ _)) | go_size)), by (repeat' (first | (with_reducible (first | assumption | exact Blk.alloc_new _ _ _ (by first | rfl | (simp; done) | omega) | apply Blk.drewN | apply Blk.drew | apply Blk.alloc_old | apply Blk.set_same | apply Blk.set_other)) | (show (_ : Nat) ≠ _; first | omega | (simp; done) | (simp; omega)) | ((simp only [List.setIfInBounds_toArray, List.set_cons_succ, List.set_cons_zero]); (with_reducible exact rfl)) | (with_reducible exact rfl) | (show (_ : Array Value) = _; exact rfl))), by (repeat' (first | (with_reducible (first | assumption | exact Blk.alloc_new _ _ _ (by first | rfl | (simp; done) | omega) | apply Blk.drewN | apply Blk.drew | apply Blk.alloc_old | apply Blk.set_same | apply Blk.set_other)) | (show (_ : Nat) ≠ _; first | omega | (simp; done) | (simp; omega)) | ((simp only [List.setIfInBounds_toArray, List.set_cons_succ, List.set_cons_zero]); (with_reducible exact rfl)) | (with_reducible exact rfl) | (show (_ : Array Value) = _; exact rfl))), ?_, by (repeat' (first | (with_reducible (first | assumption | exact Blk.alloc_new _ _ _ (by first | rfl | (simp; done) | omega) | apply Blk.drewN | apply Blk.drew | apply Blk.alloc_old | apply Blk.set_same | apply Blk.set_other)) | (show (_ : Nat) ≠ _; first | omega | (simp; done) | (simp; omega)) | ((simp only [List.setIfInBounds_toArray, List.set_cons_succ, List.set_cons_zero]); (with_reducible exact rfl)) | (with_reducible exact rfl) | (show (_ : Array Value) = _; exact rfl)))⟩ ?_
    · show (w1.alloc _).heap[M]? = _
      rw [hpa _ zM1]; exact M1
    rintro w2 ⟨g2, T2, K2, M2, F2⟩
    have hz2 := g2.size
    replace cT := T2.cell; replace fT := T2.frozen; replace zT := T2.size
    replace cK := K2.cell; replace fK := K2.frozen; replace zK := K2.size
    have cF := F2.cell; have fF := F2.frozen; have zF := F2.size
    clear l1 l2 l3 n2 n3
    obtain ⟨W', hW, hm, ho, hs, hbl⟩ := run_setU (w := w2.drew) (M := M) (L := L) (hM.of_eq M2) k i g ⟨k, P, B⟩ rfl hf
    have hset : (Instr.mapUpdate 130 (.map (some M)) (.agg #[.int .u16 k.a, .int .u16 k.b, .int .u16 k.c, .int .u16 k.d]) (.agg #[.int .u16 k.a, .int .u16 k.b, .int .u16 k.c, .int .u16 k.d, .int .u64 P, .int .u64 B])).run Try.prog w2.drew = .ok () W' := hW
    go_region
    all_goals
      go_wp2
      go_ret
      refine ⟨rfl, hm, fun b hb hne => ?_, ((g2.mono (by omega)).drew).trans hbl⟩
      rw [ho b hne]; exact g2.block b hb
end Go.Proofs.Ytljpiofpfankoaa
