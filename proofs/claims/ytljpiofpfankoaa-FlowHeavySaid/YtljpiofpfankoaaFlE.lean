/-
  Tables of flows: New, Add, Len, Get, as far as the closed example wants them. Conditions: the table's map is known.
-/
import Derived.Test.YtljpiofpfankoaaFlC
import Derived.Test.YtljpiofpfankoaaFlM
namespace Go.Proofs.Ytljpiofpfankoaa
open Go.RowKit Go.Sort
set_option linter.unusedVariables false
set_option linter.unusedSimpArgs false
theorem hpa {w : World} {M : Nat} (o : Obj) (h : M < w.heap.size) : (w.alloc o).heap[M]? = w.heap[M]? := Below.heap_alloc w o M h
theorem hps {w : World} {M : Nat} (p : Addr) (v : Value) (h : M ≠ p.block) : (w.setCell p v).heap[M]? = w.heap[M]? := Below.heap_setCell _ _ _ _ h
theorem hpd (w : World) : w.drew.heap = w.heap := rfl
theorem lookE {w : World} {M c : Nat} (k : K4) (h : w.heap[M]? = some (.map #[] c)) : (Instr.lookup 130 (.map (some M)) (kv k) true).run Try.prog w = .ok (.tuple #[fv ⟨⟨0, 0, 0, 0⟩, 0, 0⟩, .bool false]) w :=
  run_lookupF (L := []) ⟨#[], c, h, rfl⟩ k
theorem fNew (w : World) : Calls Try.prog 32 #[] w fun e w' => e = .returned (.pointer (some ⟨w.heap.size + 1, 0, none⟩)) ∧ w'.heap[w.heap.size]? = some (.map #[] 0) ∧ Blk w' (w.heap.size + 1) #[.map (some w.heap.size)] 132 ∧ Below w.heap.size w w' := by
  have hmk : ∀ v, (Instr.makeMap 130 none).run Try.prog v = .ok (.map (some v.heap.size)) (v.alloc (.map #[] 0)) := fun v => by simp [Instr.makeMap, Result.andThen]
  go_enter Try.func32, Try.ntmps32
  go_wp2
  go_ret
  refine ⟨rfl, ?_, by (repeat' (first | (with_reducible (first | assumption | exact Blk.alloc_new _ _ _ (by first | rfl | (simp; done) | omega) | apply Blk.drewN | apply Blk.drew | apply Blk.alloc_old | apply Blk.set_same | apply Blk.set_other)) | (show (_ : Nat) ≠ _; first | omega | (simp; done) | (simp; omega)) | ((simp only [List.setIfInBounds_toArray, List.set_cons_succ, List.set_cons_zero]); (with_reducible exact rfl)) | (with_reducible exact rfl) | (show (_ : Array Value) = _; exact rfl))), by (repeat' (first | (with_reducible (first | exact Below.refl _ _ | assumption | refine below_drewN ?_ _ | refine Below.drew ?_ | refine Below.alloc ?_ ?_ _ | refine Below.setCell ?_ ?_ _)) | go_size))⟩
  rw [Below.heap_alloc _ _ _ (by simp)]
  exact (MapKept.heap_alloc w _).1
theorem fLen (T M : Nat) (L : List FW) (w : World) (hT : Blk w T #[.map (some M)] 132) (hM : MapAt w M L) : Calls Try.prog 36 #[.pointer (some ⟨T, 0, none⟩)] w fun e w' => e = .returned (.int .i64 L.length) ∧ w = w' := by
  have cT := hT.cell; have zT := hT.size
  have hl := run_lenF hM
  go_enter Try.func36, Try.ntmps36
  go_wp2
  go_ret
  exact ⟨rfl, rfl⟩
set_option maxRecDepth 100000 in
set_option maxHeartbeats 4000000 in
theorem fAdd1 (T M c : Nat) (k : K4) (n : Int) (w : World) (hn : 0 ≤ n ∧ n ≤ 9223372036854775807) (hT : Blk w T #[.map (some M)] 132) (hM : w.heap[M]? = some (.map #[] c)) (hTM : M < T) :
    Calls Try.prog 33 #[.pointer (some ⟨T, 0, none⟩), .agg #[.int .u16 k.a, .int .u16 k.b, .int .u16 k.c, .int .u16 k.d], .int .i64 n] w fun e w' => e = .returned (.int .i64 0) ∧ MapAt w' M [⟨k, 1, n⟩] ∧ (∀ b, b < w.heap.size → b ≠ M → w'.heap[b]? = w.heap[b]?) ∧ Below M w w' := by
  have cT := hT.cell; have zT := hT.size
  have zM : M < w.heap.size := by omega
  have d1 : decide (n < 0) = false := decide_eq_false (by omega)
  have hu : IntKind.u64.wrap n = n := IntWalk.u64_in _ ⟨by omega, by omega⟩
  have hK : k = k := rfl
  go_enter Try.func33, Try.ntmps33
  go_upto_region 3 with (fail)
  refine wp_forget (fun v => Below w.heap.size w v ∧ Blk v T #[.map (some M)] 132 ∧ Blk v (w.heap.size) #[.int .u16 k.a, .int .u16 k.b, .int .u16 k.c, .int .u16 k.d] 48 ∧ v.heap[M]? = some (.map #[] c)) ⟨by (repeat' (first | (with_reducible (first | exact Below.refl _ _ | assumption | refine below_drewN ?_ _ | refine Below.drew ?_ | refine Below.alloc ?_ ?_ _ | refine Below.setCell ?_ ?_ _)) | go_size)), by (repeat' (first | (with_reducible (first | assumption | exact Blk.alloc_new _ _ _ (by first | rfl | (simp; done) | omega) | apply Blk.drewN | apply Blk.drew | apply Blk.alloc_old | apply Blk.set_same | apply Blk.set_other)) | (show (_ : Nat) ≠ _; first | omega | (simp; done) | (simp; omega)) | ((simp only [List.setIfInBounds_toArray, List.set_cons_succ, List.set_cons_zero]); (with_reducible exact rfl)) | (with_reducible exact rfl) | (show (_ : Array Value) = _; exact rfl))), by (repeat' (first | (with_reducible (first | assumption | exact Blk.alloc_new _ _ _ (by first | rfl | (simp; done) | omega) | apply Blk.drewN | apply Blk.drew | apply Blk.alloc_old | apply Blk.set_same | apply Blk.set_other)) | (show (_ : Nat) ≠ _; first | omega | (simp; done) | (simp; omega)) | ((simp only [List.setIfInBounds_toArray, List.set_cons_succ, List.set_cons_zero]); (with_reducible exact rfl)) | (with_reducible exact rfl) | (show (_ : Array Value) = _; exact rfl))), by rw [hpa _ zM]; exact hM⟩ ?_
  rintro w1 ⟨g1, T1, K1, M1⟩
  have hz1 := g1.size
  replace cT := T1.cell; have fT := T1.frozen; replace zT := T1.size
  have cK := K1.cell; have fK := K1.frozen; have zK := K1.size
  have zM1 : M < w1.heap.size := by omega
  have l1 := lookE (w := w1.drew) k (c := c) (M := M) M1
  have l2 : ∀ o, (Instr.lookup 130 (.map (some M)) (kv k) true).run Try.prog (w1.alloc o).drew = .ok (.tuple #[fv ⟨⟨0, 0, 0, 0⟩, 0, 0⟩, .bool false]) (w1.alloc o).drew := fun o => lookE k (c := c) (by show (w1.alloc o).heap[M]? = _; rw [hpa o zM1]; exact M1)
  have l3 : ∀ o, (Instr.lookup 130 (.map (some M)) (kv k) true).run Try.prog (w1.drew.alloc o) = .ok (.tuple #[fv ⟨⟨0, 0, 0, 0⟩, 0, 0⟩, .bool false]) (w1.drew.alloc o) := fun o => lookE k (c := c) (by rw [hpa o (by simpa using zM1)]; exact M1)
  have n2 : ∀ o, (Builtin.len_ #[130] 3 #[.map (some M)]).run Try.prog (w1.alloc o).drew = .ok (.int .i64 0) (w1.alloc o).drew := fun o => run_lenF (L := []) ⟨#[], c, by show (w1.alloc o).heap[M]? = _; rw [hpa o zM1]; exact M1, rfl⟩
  go_region
  all_goals
    go_upto_region 8 with (fail)
    refine wp_forget (fun v => Below w.heap.size w v ∧ Blk v T #[.map (some M)] 132 ∧ Blk v (w.heap.size) #[.int .u16 k.a, .int .u16 k.b, .int .u16 k.c, .int .u16 k.d] 48 ∧ v.heap[M]? = some (.map #[] c) ∧ Blk v (w1.heap.size) #[.int .u16 0, .int .u16 0, .int .u16 0, .int .u16 0, .int .u64 0, .int .u64 0] 88) ⟨by (repeat' (first | (with_reducible (first | exact Below.refl _ _ | assumption | refine below_drewN ?_ _ | refine Below.drew ?_ | refine Below.alloc ?_ ?_ _ | refine Below.setCell ?_ ?_ _)) | go_size)), by (repeat' (first | (with_reducible (first | assumption | exact Blk.alloc_new _ _ _ (by first | rfl | (simp; done) | omega) | apply Blk.drewN | apply Blk.drew | apply Blk.alloc_old | apply Blk.set_same | apply Blk.set_other)) | (show (_ : Nat) ≠ _; first | omega | (simp; done) | (simp; omega)) | ((simp only [List.setIfInBounds_toArray, List.set_cons_succ, List.set_cons_zero]); (with_reducible exact rfl)) | (with_reducible exact rfl) | (show (_ : Array Value) = _; exact rfl))), by (repeat' (first | (with_reducible (first | assumption | exact Blk.alloc_new _ _ _ (by first | rfl | (simp; done) | omega) | apply Blk.drewN | apply Blk.drew | apply Blk.alloc_old | apply Blk.set_same | apply Blk.set_other)) | (show (_ : Nat) ≠ _; first | omega | (simp; done) | (simp; omega)) | ((simp only [List.setIfInBounds_toArray, List.set_cons_succ, List.set_cons_zero]); (with_reducible exact rfl)) | (with_reducible exact rfl) | (show (_ : Array Value) = _; exact rfl))), ?_, by (repeat' (first | (with_reducible (first | assumption | exact Blk.alloc_new _ _ _ (by first | rfl | (simp; done) | omega) | apply Blk.drewN | apply Blk.drew | apply Blk.alloc_old | apply Blk.set_same | apply Blk.set_other)) | (show (_ : Nat) ≠ _; first | omega | (simp; done) | (simp; omega)) | ((simp only [List.setIfInBounds_toArray, List.set_cons_succ, List.set_cons_zero]); (with_reducible exact rfl)) | (with_reducible exact rfl) | (show (_ : Array Value) = _; exact rfl)))⟩ ?_
    · show (w1.alloc _).heap[M]? = _
      rw [hpa _ zM1]; exact M1
    rintro w2 ⟨g2, T2, K2, M2, F2⟩
    have hz2 := g2.size
    replace cT := T2.cell; replace fT := T2.frozen; replace zT := T2.size
    replace cK := K2.cell; replace fK := K2.frozen; replace zK := K2.size
    have cF := F2.cell; have fF := F2.frozen; have zF := F2.size
    clear l1 l2 l3 n2
    obtain ⟨W', hW, hm, ho, hs, hbl⟩ := run_setF (w := w2.drew) (M := M) (L := []) ⟨#[], c, M2, rfl⟩ k ⟨k, 1, n⟩ rfl rfl
    have hset : (Instr.mapUpdate 130 (.map (some M)) (.agg #[.int .u16 k.a, .int .u16 k.b, .int .u16 k.c, .int .u16 k.d]) (.agg #[.int .u16 k.a, .int .u16 k.b, .int .u16 k.c, .int .u16 k.d, .int .u64 1, .int .u64 n])).run Try.prog w2.drew = .ok () W' := hW
    go_region
    all_goals
      go_wp2
      go_ret
      refine ⟨rfl, hm, fun b hb hne => ?_, ((g2.mono (by omega)).drew).trans hbl⟩
      rw [ho b hne]; exact g2.block b hb
theorem lookF {w : World} {M i : Nat} {L : List FW} {k : K4} {f : FW} (h : MapAt w M L) (hf : findF L k 0 = some (i, f)) : (Instr.lookup 130 (.map (some M)) (kv k) false).run Try.prog w = .ok (fv f) w := by
  have := run_lookupF1 h k; rw [hf] at this; exact this
theorem MapAt.of_eq {w v : World} {M : Nat} {L : List FW} (h : MapAt w M L) (e : v.heap[M]? = w.heap[M]?) : MapAt v M L := by
  obtain ⟨es, c, hb, hs⟩ := h; exact ⟨es, c, e.trans hb, hs⟩
theorem MapAt.lt {w : World} {M : Nat} {L : List FW} (h : MapAt w M L) : M < w.heap.size := by
  obtain ⟨es, c, hb, hs⟩ := h; exact (Array.getElem?_eq_some_iff.1 hb).1
set_option maxRecDepth 100000 in
set_option maxHeartbeats 4000000 in
theorem fGet (T M i : Nat) (L : List FW) (k : K4) (f : FW) (w : World) (hT : Blk w T #[.map (some M)] 132) (hM : MapAt w M L) (hf : findF L k 0 = some (i, f)) :
    Calls Try.prog 40 #[.pointer (some ⟨T, 0, none⟩), .agg #[.int .u16 k.a, .int .u16 k.b, .int .u16 k.c, .int .u16 k.d]] w fun e w' => e = .returned (.agg #[.int .u16 k.a, .int .u16 k.b, .int .u16 k.c, .int .u16 k.d, .int .u64 f.p, .int .u64 f.b]) ∧ Below w.heap.size w w' := by
  have cT := hT.cell; have zT := hT.size
  have zM := hM.lt
  go_enter Try.func40, Try.ntmps40
  go_upto_region 3 with (fail)
  refine wp_forget (fun v => Below w.heap.size w v ∧ Blk v T #[.map (some M)] 132 ∧ Blk v (w.heap.size) #[.int .u16 k.a, .int .u16 k.b, .int .u16 k.c, .int .u16 k.d] 48 ∧ Blk v (w.heap.size + 1) #[.int .u16 0, .int .u16 0, .int .u16 0, .int .u16 0, .int .u64 0, .int .u64 0] 88 ∧ Blk v (w.heap.size + 1 + 1) #[.int .u16 k.a, .int .u16 k.b, .int .u16 k.c, .int .u16 k.d, .int .u64 0, .int .u64 0] 88) ⟨by (repeat' (first | (with_reducible (first | exact Below.refl _ _ | assumption | refine below_drewN ?_ _ | refine Below.drew ?_ | refine Below.alloc ?_ ?_ _ | refine Below.setCell ?_ ?_ _)) | go_size)), by (repeat' (first | (with_reducible (first | assumption | exact Blk.alloc_new _ _ _ (by first | rfl | (simp; done) | omega) | apply Blk.drewN | apply Blk.drew | apply Blk.alloc_old | apply Blk.set_same | apply Blk.set_other)) | (show (_ : Nat) ≠ _; first | omega | (simp; done) | (simp; omega)) | ((simp only [List.setIfInBounds_toArray, List.set_cons_succ, List.set_cons_zero]); (with_reducible exact rfl)) | (with_reducible exact rfl) | (show (_ : Array Value) = _; exact rfl))), by (repeat' (first | (with_reducible (first | assumption | exact Blk.alloc_new _ _ _ (by first | rfl | (simp; done) | omega) | apply Blk.drewN | apply Blk.drew | apply Blk.alloc_old | apply Blk.set_same | apply Blk.set_other)) | (show (_ : Nat) ≠ _; first | omega | (simp; done) | (simp; omega)) | ((simp only [List.setIfInBounds_toArray, List.set_cons_succ, List.set_cons_zero]); (with_reducible exact rfl)) | (with_reducible exact rfl) | (show (_ : Array Value) = _; exact rfl))), by (repeat' (first | (with_reducible (first | assumption | exact Blk.alloc_new _ _ _ (by first | rfl | (simp; done) | omega) | apply Blk.drewN | apply Blk.drew | apply Blk.alloc_old | apply Blk.set_same | apply Blk.set_other)) | (show (_ : Nat) ≠ _; first | omega | (simp; done) | (simp; omega)) | ((simp only [List.setIfInBounds_toArray, List.set_cons_succ, List.set_cons_zero]); (with_reducible exact rfl)) | (with_reducible exact rfl) | (show (_ : Array Value) = _; exact rfl))), by (repeat' (first | (with_reducible (first | assumption | exact Blk.alloc_new _ _ _ (by first | rfl | (simp; done) | omega) | apply Blk.drewN | apply Blk.drew | apply Blk.alloc_old | apply Blk.set_same | apply Blk.set_other)) | (show (_ : Nat) ≠ _; first | omega | (simp; done) | (simp; omega)) | ((simp only [List.setIfInBounds_toArray, List.set_cons_succ, List.set_cons_zero]); (with_reducible exact rfl)) | (with_reducible exact rfl) | (show (_ : Array Value) = _; exact rfl)))⟩ ?_
  rintro w1 ⟨g1, T1, A1, R1, X1⟩
  have hz1 := g1.size
  replace cT := T1.cell; have fT := T1.frozen; replace zT := T1.size
  have cA := A1.cell; have fA := A1.frozen; have zA := A1.size
  have cR := R1.cell; have fR := R1.frozen; have zR := R1.size
  have cX := X1.cell; have fX := X1.frozen; have zX := X1.size
  have M1 : MapAt w1 M L := hM.of_eq (g1.block M zM)
  have zM1 := M1.lt
  have l1 : (Instr.lookup 130 (.map (some M)) (kv k) false).run Try.prog w1.drew = .ok (fv f) w1.drew := lookF (M1.of_eq rfl) hf
  have l2 : ∀ o, (Instr.lookup 130 (.map (some M)) (kv k) false).run Try.prog (w1.alloc o).drew = .ok (fv f) (w1.alloc o).drew := fun o => lookF (M1.of_eq (by show (w1.alloc o).heap[M]? = _; rw [hpa o zM1])) hf
  have l3 : ∀ o, (Instr.lookup 130 (.map (some M)) (kv k) false).run Try.prog (w1.drew.alloc o) = .ok (fv f) (w1.drew.alloc o) := fun o => lookF (M1.of_eq (hpa o (by simpa using zM1))) hf
  go_region
  all_goals
    go_upto_region 4 with (fail)
    refine wp_forget (fun v => Below w.heap.size w v ∧ Blk v (w.heap.size) #[.int .u16 k.a, .int .u16 k.b, .int .u16 k.c, .int .u16 k.d] 48 ∧ Blk v (w.heap.size + 1) #[.int .u16 0, .int .u16 0, .int .u16 0, .int .u16 0, .int .u64 0, .int .u64 0] 88 ∧ Blk v (w.heap.size + 1 + 1) #[.int .u16 k.a, .int .u16 k.b, .int .u16 k.c, .int .u16 k.d, .int .u64 0, .int .u64 0] 88 ∧ Blk v (w1.heap.size) #[.int .u16 f.k.a, .int .u16 f.k.b, .int .u16 f.k.c, .int .u16 f.k.d, .int .u64 f.p, .int .u64 f.b] 88) ⟨by (repeat' (first | (with_reducible (first | exact Below.refl _ _ | assumption | refine below_drewN ?_ _ | refine Below.drew ?_ | refine Below.alloc ?_ ?_ _ | refine Below.setCell ?_ ?_ _)) | go_size)), by (repeat' (first | (with_reducible (first | assumption | exact Blk.alloc_new _ _ _ (by first | rfl | (simp; done) | omega) | apply Blk.drewN | apply Blk.drew | apply Blk.alloc_old | apply Blk.set_same | apply Blk.set_other)) | (show (_ : Nat) ≠ _; first | omega | (simp; done) | (simp; omega)) | ((simp only [List.setIfInBounds_toArray, List.set_cons_succ, List.set_cons_zero]); (with_reducible exact rfl)) | (with_reducible exact rfl) | (show (_ : Array Value) = _; exact rfl))), by (repeat' (first | (with_reducible (first | assumption | exact Blk.alloc_new _ _ _ (by first | rfl | (simp; done) | omega) | apply Blk.drewN | apply Blk.drew | apply Blk.alloc_old | apply Blk.set_same | apply Blk.set_other)) | (show (_ : Nat) ≠ _; first | omega | (simp; done) | (simp; omega)) | ((simp only [List.setIfInBounds_toArray, List.set_cons_succ, List.set_cons_zero]); (with_reducible exact rfl)) | (with_reducible exact rfl) | (show (_ : Array Value) = _; exact rfl))), by (repeat' (first | (with_reducible (first | assumption | exact Blk.alloc_new _ _ _ (by first | rfl | (simp; done) | omega) | apply Blk.drewN | apply Blk.drew | apply Blk.alloc_old | apply Blk.set_same | apply Blk.set_other)) | (show (_ : Nat) ≠ _; first | omega | (simp; done) | (simp; omega)) | ((simp only [List.setIfInBounds_toArray, List.set_cons_succ, List.set_cons_zero]); (with_reducible exact rfl)) | (with_reducible exact rfl) | (show (_ : Array Value) = _; exact rfl))), by (repeat' (first | (with_reducible (first | assumption | exact Blk.alloc_new _ _ _ (by first | rfl | (simp; done) | omega) | apply Blk.drewN | apply Blk.drew | apply Blk.alloc_old | apply Blk.set_same | apply Blk.set_other)) | (show (_ : Nat) ≠ _; first | omega | (simp; done) | (simp; omega)) | ((simp only [List.setIfInBounds_toArray, List.set_cons_succ, List.set_cons_zero]); (with_reducible exact rfl)) | (with_reducible exact rfl) | (show (_ : Array Value) = _; exact rfl)))⟩ ?_
    rintro w2 ⟨g2, A2, R2, X2, F2⟩
    have hz2 := g2.size
    replace cA := A2.cell
    replace fA := A2.frozen
    replace zA := A2.size
    replace cR := R2.cell
    replace fR := R2.frozen
    replace zR := R2.size
    replace cX := X2.cell
    replace fX := X2.frozen
    replace zX := X2.size
    have cF := F2.cell
    have fF := F2.frozen
    have zF := F2.size
    clear l1 l2 l3
    go_region
    all_goals
      go_wp2_with (first | (refine store_blk 88 (.tmp 4) (.tmp 23) (w.heap.size + 1) #[.int .u16 0, .int .u16 0, .int .u16 0, .int .u16 0, .int .u64 0, .int .u64 0] #[.int .u16 k.a, .int .u16 k.b, .int .u16 k.c, .int .u16 k.d, .int .u64 f.p, .int .u64 f.b] 88 (by rfl) (by rfl) (by rfl) (by rfl) (by (repeat' (first | (with_reducible (first | assumption | exact Blk.alloc_new _ _ _ (by first | rfl | (simp; done) | omega) | apply Blk.drewN | apply Blk.drew | apply Blk.alloc_old | apply Blk.set_same | apply Blk.set_other)) | (show (_ : Nat) ≠ _; first | omega | (simp; done) | (simp; omega)) | ((simp only [List.setIfInBounds_toArray, List.set_cons_succ, List.set_cons_zero]); (with_reducible exact rfl)) | (with_reducible exact rfl) | (show (_ : Array Value) = _; exact rfl)))) rfl (by kernel_rfl) (by simp [Value.oneCell']) ?_; intro v Bv kB kO hs; have gv : Below w.heap.size w v := kB _ _ (by first | (simp; done) | omega | (simp; omega)) (by (repeat' (first | (with_reducible (first | exact Below.refl _ _ | assumption | refine below_drewN ?_ _ | refine Below.drew ?_ | refine Below.alloc ?_ ?_ _ | refine Below.setCell ?_ ?_ _)) | go_size))); clear kB kO hs))
      refine bodyPost_ret (v := .agg #[.int .u16 k.a, .int .u16 k.b, .int .u16 k.c, .int .u16 k.d, .int .u64 f.p, .int .u64 f.b]) ?_ ?_ ?_
      · exact results_blk (w.heap.size + 1) #[.int .u16 k.a, .int .u16 k.b, .int .u16 k.c, .int .u16 k.d, .int .u64 f.p, .int .u64 f.b] 88 _ _ _ Try.results40 (by rfl) Bv Try.underlying88 rfl (by kernel_rfl)
      · rfl
      · exact ⟨rfl, gv⟩
end Go.Proofs.Ytljpiofpfankoaa
