/-
  'floodgatelaw44.Ipv4Turned' returns true for every input. Conditions: none.
-/
import Derived.Test.YtldahcfggeebgaaIpV
import Derived.Lib.ConvBytes
namespace Go.Proofs.Ytldahcfggeebgaa
open Go.RowKit Go.Sort Go.ChangeShapes Go.WideShapes Go.ChangeAt
open Go.ChangeMaps (open_string shut_string)
set_option linter.unusedVariables false
set_option linter.unusedSimpArgs false
/-- A block that holds these bytes first. -/
structure Byts (w : World) (B : Nat) (l : List Int) : Prop where
  lt : B < w.heap.size
  cell : ∀ i, i < l.length → w.cell? ⟨B, i, none⟩ = some (.int .u8 (l.getD i 0))
  frozen : ∀ i, i < l.length → w.frozen? ⟨B, i, none⟩ = false
theorem Byts.of_world (w : World) (e : TypeId) {l : List Int} (hl : Byt l) : Byts (Lib.bytesWorld w e (strOfNums l)) w.heap.size l := by
  have hs := sv_size l
  refine ⟨by rw [Lib.bytesWorld_size]; omega, fun i hi => ?_, fun i hi => ?_⟩
  · rw [Lib.bytesWorld_cell w e _ i (by omega)]
    have hg := hl.get i
    have : ((strOfNums l).data.toList.getD i 0).toNat = (l.getD i 0).toNat := by
      rw [strOfNums_data, List.getD_eq_getElem?_getD, List.getElem?_map, List.getElem?_eq_getElem hi]
      have h2 : l.getD i 0 = l[i] := by rw [List.getD_eq_getElem?_getD, List.getElem?_eq_getElem hi]; rfl
      rw [h2] at hg ⊢
      show (UInt8.ofNat l[i].toNat).toNat = _
      rw [UInt8.toNat_ofNat']; omega
    rw [this]
    congr 2
    omega
  · have hc : (Lib.bytesCells w e (strOfNums l)).size ≥ i + 1 := by
      unfold Lib.bytesCells
      rw [Array.size_append, Array.size_map]
      have : (strOfNums l).data.size = l.length := hs
      omega
    simp only [World.frozen?, Lib.bytesWorld_at_new]
    simp; omega
theorem below_bytes (w : World) (e : TypeId) (s : ByteArray) : Below w.heap.size w (Lib.bytesWorld w e s) := by
  refine ⟨?_, ?_, ?_, by rw [Lib.bytesWorld_size]; omega, fun k hk => Lib.bytesWorld_at_old w e s k hk⟩
  all_goals unfold Lib.bytesWorld World.freeze; split <;> rfl
theorem Byts.set {w : World} {B : Nat} {l : List Int} (h : Byts w B l) {k : Nat} (hk : k < l.length) (x : Int) : Byts (w.setCell ⟨B, k, none⟩ (.int .u8 x)) B (l.set k x) := by
  have hc := h.cell k hk
  refine ⟨by have := h.lt; simpa using this, fun i hi => ?_, fun i hi => ?_⟩
  · rw [List.length_set] at hi
    by_cases e : k = i
    · subst e
      rw [lset_self l k x hk]
      exact World.cell?_setCell_same _ _ _ hc
    · rw [lset_off l k i x e, World.cell?_setCell_other _ _ _ _ (by intro q; cases q; exact e rfl)]
      exact h.cell i hi
  · rw [List.length_set] at hi
    rw [World.frozen?_setCell]; exact h.frozen i hi
theorem conv_bytes {w : World} {B : Nat} {l : List Int} (h : Byts w B l) (c : Nat) : (convert 57 9 (.slice (some ⟨B, 0, none⟩) l.length c)).run Try.prog w = .ok (SV l) w :=
  run_convert_bytes_arg (P := Try.prog) w 57 5 Try.underlying57 Try.underlying5 B 0 l.length c l rfl (fun i hi => by rw [Nat.zero_add]; exact h.cell i hi) 9 Try.underlying9
theorem conv_string (l : List Int) (v : World) : (convert 9 57 (SV l)).run Try.prog v = .ok (.slice (some ⟨v.heap.size, 0, none⟩) l.length (grownCap v l.length 0 5)) (Lib.bytesWorld v 5 (strOfNums l)) := by
  have h := Lib.run_convert_string_bytes (P := Try.prog) v 9 57 5 (strOfNums l) Try.underlying9 Try.underlying57 Try.underlying5
  rw [sv_size] at h; exact h
set_option maxRecDepth 100000 in
set_option maxHeartbeats 4000000 in
theorem turned_e (h : HD) (b F s : List Int) (x q1 : Int) (q0 : Int) (w : World) (hx : x ≠ 0)
    (KE : Hid (∀ v, Calls Try.prog 26 #[.agg #[.int .u8 h.tos, .int .u16 h.id, .int .u8 h.fl, .int .u16 h.off, .int .u8 h.ttl, .int .u8 h.pr, .int .u32 h.src, .int .u32 h.dst, SV h.o], SV b] v fun e w' => e = .returned (.tuple #[.string ⟨#[]⟩, .int .i64 x]) ∧ Below v.heap.size v w')) :
    Calls Try.prog 11 #[.agg #[.int .u8 h.tos, .int .u16 h.id, .int .u8 h.fl, .int .u16 h.off, .int .u8 h.ttl, .int .u8 h.pr, .int .u32 h.src, .int .u32 h.dst, SV h.o], SV b, .agg #[.int .i64 q0, .int .i64 q1]] w fun e w' => e = .returned (.bool true) ∧ Below w.heap.size w w' := by
  have hxb : (x != 0) = true := bne_iff_ne.2 hx
  go_enter Try.func11, Try.ntmps11
  go_wp2_with fail
  refine (KE.out _).mono ?_
  rintro e w1 ⟨rfl, hb1⟩
  have A1 : Blk w1 (w.heap.size) #[.int .u8 h.tos, .int .u16 h.id, .int .u8 h.fl, .int .u16 h.off, .int .u8 h.ttl, .int .u8 h.pr, .int .u32 h.src, .int .u32 h.dst, SV h.o] 61 := Blk.below (by (repeat' (first | (with_reducible (first | assumption | exact Blk.alloc_new _ _ _ (by first | rfl | (simp; done) | omega) | apply Blk.drewN | apply Blk.drew | apply Blk.alloc_old | apply Blk.set_same | apply Blk.set_other)) | (show (_ : Nat) ≠ _; first | omega | (simp; done) | (simp; omega)) | ((simp only [List.setIfInBounds_toArray, List.set_cons_succ, List.set_cons_zero]); (with_reducible exact rfl)) | (with_reducible exact rfl) | (show (_ : Array Value) = _; exact rfl)))) hb1 (by first | (simp; done) | omega | (simp; omega))
  have Q1 : Blk w1 (w.heap.size + 1) #[.int .i64 q0, .int .i64 q1] 74 := Blk.below (by (repeat' (first | (with_reducible (first | assumption | exact Blk.alloc_new _ _ _ (by first | rfl | (simp; done) | omega) | apply Blk.drewN | apply Blk.drew | apply Blk.alloc_old | apply Blk.set_same | apply Blk.set_other)) | (show (_ : Nat) ≠ _; first | omega | (simp; done) | (simp; omega)) | ((simp only [List.setIfInBounds_toArray, List.set_cons_succ, List.set_cons_zero]); (with_reducible exact rfl)) | (with_reducible exact rfl) | (show (_ : Array Value) = _; exact rfl)))) hb1 (by first | (simp; done) | omega | (simp; omega))
  have g1 : Below w.heap.size w w1 := by refine Below.trans ?_ (hb1.mono ?_) <;> (repeat' (first | (with_reducible (first | exact Below.refl _ _ | assumption | refine below_drewN ?_ _ | refine Below.drew ?_ | refine Below.alloc ?_ ?_ _ | refine Below.setCell ?_ ?_ _)) | go_size))
  have hz1 := hb1.size
  (try simp at hz1)
  clear hb1
  replace cA := A1.cell
  replace fA := A1.frozen
  replace zA := A1.size
  replace cQ := Q1.cell
  replace fQ := Q1.frozen
  replace zQ := Q1.size
  go_upto_region 3 with (fail)
  refine wp_forget (fun v => Below w.heap.size w v ∧ Blk v (w.heap.size) #[.int .u8 h.tos, .int .u16 h.id, .int .u8 h.fl, .int .u16 h.off, .int .u8 h.ttl, .int .u8 h.pr, .int .u32 h.src, .int .u32 h.dst, SV h.o] 61 ∧ Blk v (w.heap.size + 1) #[.int .i64 q0, .int .i64 q1] 74) ⟨by (repeat' (first | (with_reducible (first | exact Below.refl _ _ | assumption | refine below_drewN ?_ _ | refine Below.drew ?_ | refine Below.alloc ?_ ?_ _ | refine Below.setCell ?_ ?_ _)) | go_size)), by (repeat' (first | (with_reducible (first | assumption | exact Blk.alloc_new _ _ _ (by first | rfl | (simp; done) | omega) | apply Blk.drewN | apply Blk.drew | apply Blk.alloc_old | apply Blk.set_same | apply Blk.set_other)) | (show (_ : Nat) ≠ _; first | omega | (simp; done) | (simp; omega)) | ((simp only [List.setIfInBounds_toArray, List.set_cons_succ, List.set_cons_zero]); (with_reducible exact rfl)) | (with_reducible exact rfl) | (show (_ : Array Value) = _; exact rfl))), by (repeat' (first | (with_reducible (first | assumption | exact Blk.alloc_new _ _ _ (by first | rfl | (simp; done) | omega) | apply Blk.drewN | apply Blk.drew | apply Blk.alloc_old | apply Blk.set_same | apply Blk.set_other)) | (show (_ : Nat) ≠ _; first | omega | (simp; done) | (simp; omega)) | ((simp only [List.setIfInBounds_toArray, List.set_cons_succ, List.set_cons_zero]); (with_reducible exact rfl)) | (with_reducible exact rfl) | (show (_ : Array Value) = _; exact rfl)))⟩ ?_
  rintro v2 ⟨gv2, Av2, Qv2⟩
  have qA2 := blk_calm Av2
  have qQ2 := blk_calm Qv2
  refine wp_region_quiet_below (by kernel_rfl) (by kernel_rfl) ?_
  repeat (go_big_quiet_step ((first
      | fail)))
  refine wpQuiet_nil ?_
  intro _ hw'
  obtain ⟨pq, hw''⟩ := hw'
  subst hw''
  have hb2 := below_regrown v2 pq.d pq.os
  generalize Sort.grow (redrawn v2 pq.d) pq.os = w2 at *
  have A2 : Blk w2 (w.heap.size) #[.int .u8 h.tos, .int .u16 h.id, .int .u8 h.fl, .int .u16 h.off, .int .u8 h.ttl, .int .u8 h.pr, .int .u32 h.src, .int .u32 h.dst, SV h.o] 61 := Blk.below Av2 hb2 Av2.size
  have Q2 : Blk w2 (w.heap.size + 1) #[.int .i64 q0, .int .i64 q1] 74 := Blk.below Qv2 hb2 Qv2.size
  have g2 : Below w.heap.size w w2 := gv2.trans (hb2.mono gv2.size)
  have hz2 : w.heap.size ≤ w2.heap.size := g2.size
  clear hb2 gv2 Av2 qA2 Qv2 qQ2
  replace cA := A2.cell
  replace fA := A2.frozen
  replace zA := A2.size
  replace cQ := Q2.cell
  replace fQ := Q2.frozen
  replace zQ := Q2.size
  go_wp2_with fail
  refine (four_true _).mono ?_
  rintro e w3 ⟨rfl, hb3⟩
  have g3 : Below w.heap.size w w3 := by refine Below.trans ?_ (hb3.mono ?_) <;> (repeat' (first | (with_reducible (first | exact Below.refl _ _ | assumption | refine below_drewN ?_ _ | refine Below.drew ?_ | refine Below.alloc ?_ ?_ _ | refine Below.setCell ?_ ?_ _)) | go_size))
  have hz3 := hb3.size
  (try simp at hz3)
  clear hb3
  go_wp2
  go_ret
  exact ⟨rfl, by (repeat' (first | (with_reducible (first | exact Below.refl _ _ | assumption | refine below_drewN ?_ _ | refine Below.drew ?_ | refine Below.alloc ?_ ?_ _ | refine Below.setCell ?_ ?_ _)) | go_size))⟩
set_option maxRecDepth 100000 in
set_option maxHeartbeats 4000000 in
theorem turned_small (h : HD) (b F s : List Int) (x q1 : Int) (q0 : Int) (w : World) (hq : q0 < 1)
    (KE : Hid (∀ v, Calls Try.prog 26 #[.agg #[.int .u8 h.tos, .int .u16 h.id, .int .u8 h.fl, .int .u16 h.off, .int .u8 h.ttl, .int .u8 h.pr, .int .u32 h.src, .int .u32 h.dst, SV h.o], SV b] v fun e w' => e = .returned (.tuple #[SV s, .int .i64 0]) ∧ Below v.heap.size v w')) :
    Calls Try.prog 11 #[.agg #[.int .u8 h.tos, .int .u16 h.id, .int .u8 h.fl, .int .u16 h.off, .int .u8 h.ttl, .int .u8 h.pr, .int .u32 h.src, .int .u32 h.dst, SV h.o], SV b, .agg #[.int .i64 q0, .int .i64 q1]] w fun e w' => e = .returned (.bool true) ∧ Below w.heap.size w w' := by
  have d1 : decide (q0 < 1) = true := decide_eq_true hq
  go_enter Try.func11, Try.ntmps11
  go_wp2_with fail
  refine (KE.out _).mono ?_
  rintro e w1 ⟨rfl, hb1⟩
  have A1 : Blk w1 (w.heap.size) #[.int .u8 h.tos, .int .u16 h.id, .int .u8 h.fl, .int .u16 h.off, .int .u8 h.ttl, .int .u8 h.pr, .int .u32 h.src, .int .u32 h.dst, SV h.o] 61 := Blk.below (by (repeat' (first | (with_reducible (first | assumption | exact Blk.alloc_new _ _ _ (by first | rfl | (simp; done) | omega) | apply Blk.drewN | apply Blk.drew | apply Blk.alloc_old | apply Blk.set_same | apply Blk.set_other)) | (show (_ : Nat) ≠ _; first | omega | (simp; done) | (simp; omega)) | ((simp only [List.setIfInBounds_toArray, List.set_cons_succ, List.set_cons_zero]); (with_reducible exact rfl)) | (with_reducible exact rfl) | (show (_ : Array Value) = _; exact rfl)))) hb1 (by first | (simp; done) | omega | (simp; omega))
  have Q1 : Blk w1 (w.heap.size + 1) #[.int .i64 q0, .int .i64 q1] 74 := Blk.below (by (repeat' (first | (with_reducible (first | assumption | exact Blk.alloc_new _ _ _ (by first | rfl | (simp; done) | omega) | apply Blk.drewN | apply Blk.drew | apply Blk.alloc_old | apply Blk.set_same | apply Blk.set_other)) | (show (_ : Nat) ≠ _; first | omega | (simp; done) | (simp; omega)) | ((simp only [List.setIfInBounds_toArray, List.set_cons_succ, List.set_cons_zero]); (with_reducible exact rfl)) | (with_reducible exact rfl) | (show (_ : Array Value) = _; exact rfl)))) hb1 (by first | (simp; done) | omega | (simp; omega))
  have g1 : Below w.heap.size w w1 := by refine Below.trans ?_ (hb1.mono ?_) <;> (repeat' (first | (with_reducible (first | exact Below.refl _ _ | assumption | refine below_drewN ?_ _ | refine Below.drew ?_ | refine Below.alloc ?_ ?_ _ | refine Below.setCell ?_ ?_ _)) | go_size))
  have hz1 := hb1.size
  (try simp at hz1)
  clear hb1
  replace cA := A1.cell
  replace fA := A1.frozen
  replace zA := A1.size
  replace cQ := Q1.cell
  replace fQ := Q1.frozen
  replace zQ := Q1.size
  go_upto_region 3 with (fail)
  refine wp_forget (fun v => Below w.heap.size w v ∧ Blk v (w.heap.size) #[.int .u8 h.tos, .int .u16 h.id, .int .u8 h.fl, .int .u16 h.off, .int .u8 h.ttl, .int .u8 h.pr, .int .u32 h.src, .int .u32 h.dst, SV h.o] 61 ∧ Blk v (w.heap.size + 1) #[.int .i64 q0, .int .i64 q1] 74) ⟨by (repeat' (first | (with_reducible (first | exact Below.refl _ _ | assumption | refine below_drewN ?_ _ | refine Below.drew ?_ | refine Below.alloc ?_ ?_ _ | refine Below.setCell ?_ ?_ _)) | go_size)), by (repeat' (first | (with_reducible (first | assumption | exact Blk.alloc_new _ _ _ (by first | rfl | (simp; done) | omega) | apply Blk.drewN | apply Blk.drew | apply Blk.alloc_old | apply Blk.set_same | apply Blk.set_other)) | (show (_ : Nat) ≠ _; first | omega | (simp; done) | (simp; omega)) | ((simp only [List.setIfInBounds_toArray, List.set_cons_succ, List.set_cons_zero]); (with_reducible exact rfl)) | (with_reducible exact rfl) | (show (_ : Array Value) = _; exact rfl))), by (repeat' (first | (with_reducible (first | assumption | exact Blk.alloc_new _ _ _ (by first | rfl | (simp; done) | omega) | apply Blk.drewN | apply Blk.drew | apply Blk.alloc_old | apply Blk.set_same | apply Blk.set_other)) | (show (_ : Nat) ≠ _; first | omega | (simp; done) | (simp; omega)) | ((simp only [List.setIfInBounds_toArray, List.set_cons_succ, List.set_cons_zero]); (with_reducible exact rfl)) | (with_reducible exact rfl) | (show (_ : Array Value) = _; exact rfl)))⟩ ?_
  rintro v2 ⟨gv2, Av2, Qv2⟩
  have qA2 := blk_calm Av2
  have qQ2 := blk_calm Qv2
  refine wp_region_quiet_below (by kernel_rfl) (by kernel_rfl) ?_
  repeat (go_big_quiet_step ((first
      | fail)))
  refine wpQuiet_nil ?_
  intro _ hw'
  obtain ⟨pq, hw''⟩ := hw'
  subst hw''
  have hb2 := below_regrown v2 pq.d pq.os
  generalize Sort.grow (redrawn v2 pq.d) pq.os = w2 at *
  have A2 : Blk w2 (w.heap.size) #[.int .u8 h.tos, .int .u16 h.id, .int .u8 h.fl, .int .u16 h.off, .int .u8 h.ttl, .int .u8 h.pr, .int .u32 h.src, .int .u32 h.dst, SV h.o] 61 := Blk.below Av2 hb2 Av2.size
  have Q2 : Blk w2 (w.heap.size + 1) #[.int .i64 q0, .int .i64 q1] 74 := Blk.below Qv2 hb2 Qv2.size
  have g2 : Below w.heap.size w w2 := gv2.trans (hb2.mono gv2.size)
  have hz2 : w.heap.size ≤ w2.heap.size := g2.size
  clear hb2 gv2 Av2 qA2 Qv2 qQ2
  replace cA := A2.cell
  replace fA := A2.frozen
  replace zA := A2.size
  replace cQ := Q2.cell
  replace fQ := Q2.frozen
  replace zQ := Q2.size
  go_wp2_with fail
  refine (four_true _).mono ?_
  rintro e w3 ⟨rfl, hb3⟩
  have g3 : Below w.heap.size w w3 := by refine Below.trans ?_ (hb3.mono ?_) <;> (repeat' (first | (with_reducible (first | exact Below.refl _ _ | assumption | refine below_drewN ?_ _ | refine Below.drew ?_ | refine Below.alloc ?_ ?_ _ | refine Below.setCell ?_ ?_ _)) | go_size))
  have hz3 := hb3.size
  (try simp at hz3)
  clear hb3
  go_wp2
  go_ret
  exact ⟨rfl, by (repeat' (first | (with_reducible (first | exact Below.refl _ _ | assumption | refine below_drewN ?_ _ | refine Below.drew ?_ | refine Below.alloc ?_ ?_ _ | refine Below.setCell ?_ ?_ _)) | go_size))⟩
set_option maxRecDepth 100000 in
set_option maxHeartbeats 4000000 in
theorem turned_big (h : HD) (b F s : List Int) (x q1 : Int) (q0 : Int) (w : World) (hF : F.length ≤ 40) (hq : 20 + (F.length : Int) ≤ q0)
    (KE : Hid (∀ v, Calls Try.prog 26 #[.agg #[.int .u8 h.tos, .int .u16 h.id, .int .u8 h.fl, .int .u16 h.off, .int .u8 h.ttl, .int .u8 h.pr, .int .u32 h.src, .int .u32 h.dst, SV h.o], SV b] v fun e w' => e = .returned (.tuple #[SV s, .int .i64 0]) ∧ Below v.heap.size v w'))
    (KF : Hid (∀ v, Calls Try.prog 30 #[SV h.o] v fun e w' => e = .returned (SV F) ∧ Below v.heap.size v w')) :
    Calls Try.prog 11 #[.agg #[.int .u8 h.tos, .int .u16 h.id, .int .u8 h.fl, .int .u16 h.off, .int .u8 h.ttl, .int .u8 h.pr, .int .u32 h.src, .int .u32 h.dst, SV h.o], SV b, .agg #[.int .i64 q0, .int .i64 q1]] w fun e w' => e = .returned (.bool true) ∧ Below w.heap.size w w' := by
  have ks := sv_size
  have hw20 : IntKind.i64.wrap (20 + (F.length : Int)) = 20 + (F.length : Int) := IntWalk.i64_in _ ⟨by omega, by omega⟩
  have d1 : decide (q0 < 1) = false := decide_eq_false (by omega)
  have d2 : decide (20 + (F.length : Int) ≤ q0) = true := decide_eq_true hq
  go_enter Try.func11, Try.ntmps11
  go_wp2_with fail
  refine (KE.out _).mono ?_
  rintro e w1 ⟨rfl, hb1⟩
  have A1 : Blk w1 (w.heap.size) #[.int .u8 h.tos, .int .u16 h.id, .int .u8 h.fl, .int .u16 h.off, .int .u8 h.ttl, .int .u8 h.pr, .int .u32 h.src, .int .u32 h.dst, SV h.o] 61 := Blk.below (by (repeat' (first | (with_reducible (first | assumption | exact Blk.alloc_new _ _ _ (by first | rfl | (simp; done) | omega) | apply Blk.drewN | apply Blk.drew | apply Blk.alloc_old | apply Blk.set_same | apply Blk.set_other)) | (show (_ : Nat) ≠ _; first | omega | (simp; done) | (simp; omega)) | ((simp only [List.setIfInBounds_toArray, List.set_cons_succ, List.set_cons_zero]); (with_reducible exact rfl)) | (with_reducible exact rfl) | (show (_ : Array Value) = _; exact rfl)))) hb1 (by first | (simp; done) | omega | (simp; omega))
  have Q1 : Blk w1 (w.heap.size + 1) #[.int .i64 q0, .int .i64 q1] 74 := Blk.below (by (repeat' (first | (with_reducible (first | assumption | exact Blk.alloc_new _ _ _ (by first | rfl | (simp; done) | omega) | apply Blk.drewN | apply Blk.drew | apply Blk.alloc_old | apply Blk.set_same | apply Blk.set_other)) | (show (_ : Nat) ≠ _; first | omega | (simp; done) | (simp; omega)) | ((simp only [List.setIfInBounds_toArray, List.set_cons_succ, List.set_cons_zero]); (with_reducible exact rfl)) | (with_reducible exact rfl) | (show (_ : Array Value) = _; exact rfl)))) hb1 (by first | (simp; done) | omega | (simp; omega))
  have g1 : Below w.heap.size w w1 := by refine Below.trans ?_ (hb1.mono ?_) <;> (repeat' (first | (with_reducible (first | exact Below.refl _ _ | assumption | refine below_drewN ?_ _ | refine Below.drew ?_ | refine Below.alloc ?_ ?_ _ | refine Below.setCell ?_ ?_ _)) | go_size))
  have hz1 := hb1.size
  (try simp at hz1)
  clear hb1
  replace cA := A1.cell
  replace fA := A1.frozen
  replace zA := A1.size
  replace cQ := Q1.cell
  replace fQ := Q1.frozen
  replace zQ := Q1.size
  go_upto_region 3 with (fail)
  refine wp_forget (fun v => Below w.heap.size w v ∧ Blk v (w.heap.size) #[.int .u8 h.tos, .int .u16 h.id, .int .u8 h.fl, .int .u16 h.off, .int .u8 h.ttl, .int .u8 h.pr, .int .u32 h.src, .int .u32 h.dst, SV h.o] 61 ∧ Blk v (w.heap.size + 1) #[.int .i64 q0, .int .i64 q1] 74) ⟨by (repeat' (first | (with_reducible (first | exact Below.refl _ _ | assumption | refine below_drewN ?_ _ | refine Below.drew ?_ | refine Below.alloc ?_ ?_ _ | refine Below.setCell ?_ ?_ _)) | go_size)), by (repeat' (first | (with_reducible (first | assumption | exact Blk.alloc_new _ _ _ (by first | rfl | (simp; done) | omega) | apply Blk.drewN | apply Blk.drew | apply Blk.alloc_old | apply Blk.set_same | apply Blk.set_other)) | (show (_ : Nat) ≠ _; first | omega | (simp; done) | (simp; omega)) | ((simp only [List.setIfInBounds_toArray, List.set_cons_succ, List.set_cons_zero]); (with_reducible exact rfl)) | (with_reducible exact rfl) | (show (_ : Array Value) = _; exact rfl))), by (repeat' (first | (with_reducible (first | assumption | exact Blk.alloc_new _ _ _ (by first | rfl | (simp; done) | omega) | apply Blk.drewN | apply Blk.drew | apply Blk.alloc_old | apply Blk.set_same | apply Blk.set_other)) | (show (_ : Nat) ≠ _; first | omega | (simp; done) | (simp; omega)) | ((simp only [List.setIfInBounds_toArray, List.set_cons_succ, List.set_cons_zero]); (with_reducible exact rfl)) | (with_reducible exact rfl) | (show (_ : Array Value) = _; exact rfl)))⟩ ?_
  rintro v2 ⟨gv2, Av2, Qv2⟩
  have qA2 := blk_calm Av2
  have qQ2 := blk_calm Qv2
  refine wp_region_quiet_below (by kernel_rfl) (by kernel_rfl) ?_
  repeat (go_big_quiet_step ((first
      | (go_at_call 30; (with_reducible exact Calls.regrown_of (KF.out _))))))
  refine wpQuiet_nil ?_
  intro _ hw'
  obtain ⟨pq, hw''⟩ := hw'
  subst hw''
  have hb2 := below_regrown v2 pq.d pq.os
  generalize Sort.grow (redrawn v2 pq.d) pq.os = w2 at *
  have A2 : Blk w2 (w.heap.size) #[.int .u8 h.tos, .int .u16 h.id, .int .u8 h.fl, .int .u16 h.off, .int .u8 h.ttl, .int .u8 h.pr, .int .u32 h.src, .int .u32 h.dst, SV h.o] 61 := Blk.below Av2 hb2 Av2.size
  have Q2 : Blk w2 (w.heap.size + 1) #[.int .i64 q0, .int .i64 q1] 74 := Blk.below Qv2 hb2 Qv2.size
  have g2 : Below w.heap.size w w2 := gv2.trans (hb2.mono gv2.size)
  have hz2 : w.heap.size ≤ w2.heap.size := g2.size
  clear hb2 gv2 Av2 qA2 Qv2 qQ2
  replace cA := A2.cell
  replace fA := A2.frozen
  replace zA := A2.size
  replace cQ := Q2.cell
  replace fQ := Q2.frozen
  replace zQ := Q2.size
  go_wp2_with fail
  refine (four_true _).mono ?_
  rintro e w3 ⟨rfl, hb3⟩
  have g3 : Below w.heap.size w w3 := by refine Below.trans ?_ (hb3.mono ?_) <;> (repeat' (first | (with_reducible (first | exact Below.refl _ _ | assumption | refine below_drewN ?_ _ | refine Below.drew ?_ | refine Below.alloc ?_ ?_ _ | refine Below.setCell ?_ ?_ _)) | go_size))
  have hz3 := hb3.size
  (try simp at hz3)
  clear hb3
  go_wp2
  go_ret
  exact ⟨rfl, by (repeat' (first | (with_reducible (first | exact Below.refl _ _ | assumption | refine below_drewN ?_ _ | refine Below.drew ?_ | refine Below.alloc ?_ ?_ _ | refine Below.setCell ?_ ?_ _)) | go_size))⟩
set_option maxRecDepth 100000 in
set_option maxHeartbeats 4000000 in
theorem turned_same (h : HD) (b F s : List Int) (x q1 : Int) (k : Nat) (w : World) (hF : F.length ≤ 40) (hs : Byt s) (hsl : s.length ≤ 65535) (hk1 : 1 ≤ k) (hk2 : k < 20 + F.length) (hk3 : 20 + F.length ≤ s.length) (hq : IntKind.u8.wrap q1 = s.getD k 0)
    (KE : Hid (∀ v, Calls Try.prog 26 #[.agg #[.int .u8 h.tos, .int .u16 h.id, .int .u8 h.fl, .int .u16 h.off, .int .u8 h.ttl, .int .u8 h.pr, .int .u32 h.src, .int .u32 h.dst, SV h.o], SV b] v fun e w' => e = .returned (.tuple #[SV s, .int .i64 0]) ∧ Below v.heap.size v w'))
    (KF : Hid (∀ v, Calls Try.prog 30 #[SV h.o] v fun e w' => e = .returned (SV F) ∧ Below v.heap.size v w')) :
    Calls Try.prog 11 #[.agg #[.int .u8 h.tos, .int .u16 h.id, .int .u8 h.fl, .int .u16 h.off, .int .u8 h.ttl, .int .u8 h.pr, .int .u32 h.src, .int .u32 h.dst, SV h.o], SV b, .agg #[.int .i64 (k : Int), .int .i64 q1]] w fun e w' => e = .returned (.bool true) ∧ Below w.heap.size w w' := by
  have ks := sv_size
  have hw20 : IntKind.i64.wrap (20 + (F.length : Int)) = 20 + (F.length : Int) := IntWalk.i64_in _ ⟨by omega, by omega⟩
  have hks : k < s.length := by omega
  have d1 : decide ((k : Int) < 1) = false := decide_eq_false (by omega)
  have d2 : decide (20 + (F.length : Int) ≤ (k : Int)) = false := decide_eq_false (by omega)
  have d3 : decide ((s.length : Int) ≤ (k : Int)) = false := decide_eq_false (by omega)
  have d3n : decide (s.length ≤ k) = false := decide_eq_false (by omega)
  obtain ⟨z, hz⟩ : ∃ z, s.getD k 0 = z := ⟨_, rfl⟩
  have hzr := hs.get k
  rw [hz] at hzr
  have hix := fun v => sv_idx hs k z hks hz v
  obtain ⟨y, hy⟩ : ∃ y, IntKind.u8.wrap q1 = y := ⟨_, rfl⟩
  have hy2 : q1 % 256 = y := by rw [← hy, IntKind.wrap_u8]
  have hyr : 0 ≤ y ∧ y ≤ 255 := by omega
  have hyz : y = z := by rw [← hy, ← hz]; exact hq
  subst hyz
  clear hq
  go_enter Try.func11, Try.ntmps11
  go_wp2_with fail
  refine (KE.out _).mono ?_
  rintro e w1 ⟨rfl, hb1⟩
  have A1 : Blk w1 (w.heap.size) #[.int .u8 h.tos, .int .u16 h.id, .int .u8 h.fl, .int .u16 h.off, .int .u8 h.ttl, .int .u8 h.pr, .int .u32 h.src, .int .u32 h.dst, SV h.o] 61 := Blk.below (by (repeat' (first | (with_reducible (first | assumption | exact Blk.alloc_new _ _ _ (by first | rfl | (simp; done) | omega) | apply Blk.drewN | apply Blk.drew | apply Blk.alloc_old | apply Blk.set_same | apply Blk.set_other)) | (show (_ : Nat) ≠ _; first | omega | (simp; done) | (simp; omega)) | ((simp only [List.setIfInBounds_toArray, List.set_cons_succ, List.set_cons_zero]); (with_reducible exact rfl)) | (with_reducible exact rfl) | (show (_ : Array Value) = _; exact rfl)))) hb1 (by first | (simp; done) | omega | (simp; omega))
  have Q1 : Blk w1 (w.heap.size + 1) #[.int .i64 k, .int .i64 q1] 74 := Blk.below (by (repeat' (first | (with_reducible (first | assumption | exact Blk.alloc_new _ _ _ (by first | rfl | (simp; done) | omega) | apply Blk.drewN | apply Blk.drew | apply Blk.alloc_old | apply Blk.set_same | apply Blk.set_other)) | (show (_ : Nat) ≠ _; first | omega | (simp; done) | (simp; omega)) | ((simp only [List.setIfInBounds_toArray, List.set_cons_succ, List.set_cons_zero]); (with_reducible exact rfl)) | (with_reducible exact rfl) | (show (_ : Array Value) = _; exact rfl)))) hb1 (by first | (simp; done) | omega | (simp; omega))
  have g1 : Below w.heap.size w w1 := by refine Below.trans ?_ (hb1.mono ?_) <;> (repeat' (first | (with_reducible (first | exact Below.refl _ _ | assumption | refine below_drewN ?_ _ | refine Below.drew ?_ | refine Below.alloc ?_ ?_ _ | refine Below.setCell ?_ ?_ _)) | go_size))
  have hz1 := hb1.size
  (try simp at hz1)
  clear hb1
  replace cA := A1.cell
  replace fA := A1.frozen
  replace zA := A1.size
  replace cQ := Q1.cell
  replace fQ := Q1.frozen
  replace zQ := Q1.size
  go_upto_region 3 with (fail)
  refine wp_forget (fun v => Below w.heap.size w v ∧ Blk v (w.heap.size) #[.int .u8 h.tos, .int .u16 h.id, .int .u8 h.fl, .int .u16 h.off, .int .u8 h.ttl, .int .u8 h.pr, .int .u32 h.src, .int .u32 h.dst, SV h.o] 61 ∧ Blk v (w.heap.size + 1) #[.int .i64 k, .int .i64 q1] 74) ⟨by (repeat' (first | (with_reducible (first | exact Below.refl _ _ | assumption | refine below_drewN ?_ _ | refine Below.drew ?_ | refine Below.alloc ?_ ?_ _ | refine Below.setCell ?_ ?_ _)) | go_size)), by (repeat' (first | (with_reducible (first | assumption | exact Blk.alloc_new _ _ _ (by first | rfl | (simp; done) | omega) | apply Blk.drewN | apply Blk.drew | apply Blk.alloc_old | apply Blk.set_same | apply Blk.set_other)) | (show (_ : Nat) ≠ _; first | omega | (simp; done) | (simp; omega)) | ((simp only [List.setIfInBounds_toArray, List.set_cons_succ, List.set_cons_zero]); (with_reducible exact rfl)) | (with_reducible exact rfl) | (show (_ : Array Value) = _; exact rfl))), by (repeat' (first | (with_reducible (first | assumption | exact Blk.alloc_new _ _ _ (by first | rfl | (simp; done) | omega) | apply Blk.drewN | apply Blk.drew | apply Blk.alloc_old | apply Blk.set_same | apply Blk.set_other)) | (show (_ : Nat) ≠ _; first | omega | (simp; done) | (simp; omega)) | ((simp only [List.setIfInBounds_toArray, List.set_cons_succ, List.set_cons_zero]); (with_reducible exact rfl)) | (with_reducible exact rfl) | (show (_ : Array Value) = _; exact rfl)))⟩ ?_
  rintro v2 ⟨gv2, Av2, Qv2⟩
  have qA2 := blk_calm Av2
  have qQ2 := blk_calm Qv2
  refine wp_region_quiet_below (by kernel_rfl) (by kernel_rfl) ?_
  repeat (go_big_quiet_step ((first
      | (go_at_call 30; (with_reducible exact Calls.regrown_of (KF.out _))))))
  refine wpQuiet_nil ?_
  intro _ hw'
  obtain ⟨pq, hw''⟩ := hw'
  subst hw''
  have hb2 := below_regrown v2 pq.d pq.os
  generalize Sort.grow (redrawn v2 pq.d) pq.os = w2 at *
  have A2 : Blk w2 (w.heap.size) #[.int .u8 h.tos, .int .u16 h.id, .int .u8 h.fl, .int .u16 h.off, .int .u8 h.ttl, .int .u8 h.pr, .int .u32 h.src, .int .u32 h.dst, SV h.o] 61 := Blk.below Av2 hb2 Av2.size
  have Q2 : Blk w2 (w.heap.size + 1) #[.int .i64 k, .int .i64 q1] 74 := Blk.below Qv2 hb2 Qv2.size
  have g2 : Below w.heap.size w w2 := gv2.trans (hb2.mono gv2.size)
  have hz2 : w.heap.size ≤ w2.heap.size := g2.size
  clear hb2 gv2 Av2 qA2 Qv2 qQ2
  replace cA := A2.cell
  replace fA := A2.frozen
  replace zA := A2.size
  replace cQ := Q2.cell
  replace fQ := Q2.frozen
  replace zQ := Q2.size
  go_wp2_with fail
  refine (four_true _).mono ?_
  rintro e w3 ⟨rfl, hb3⟩
  have g3 : Below w.heap.size w w3 := by refine Below.trans ?_ (hb3.mono ?_) <;> (repeat' (first | (with_reducible (first | exact Below.refl _ _ | assumption | refine below_drewN ?_ _ | refine Below.drew ?_ | refine Below.alloc ?_ ?_ _ | refine Below.setCell ?_ ?_ _)) | go_size))
  have hz3 := hb3.size
  (try simp at hz3)
  clear hb3
  go_wp2
  go_ret
  exact ⟨rfl, by (repeat' (first | (with_reducible (first | exact Below.refl _ _ | assumption | refine below_drewN ?_ _ | refine Below.drew ?_ | refine Below.alloc ?_ ?_ _ | refine Below.setCell ?_ ?_ _)) | go_size))⟩
set_option maxRecDepth 100000 in
set_option maxHeartbeats 4000000 in
theorem turned_main (h : HD) (b F s : List Int) (x q1 : Int) (k : Nat) (w : World) (hF : F.length ≤ 40) (hs : Byt s) (hsl : s.length ≤ 65535) (hk1 : 1 ≤ k) (hk2 : k < 20 + F.length) (hk3 : 20 + F.length ≤ s.length) (hq : IntKind.u8.wrap q1 ≠ s.getD k 0) (hx : x ≠ 0)
    (KE : Hid (∀ v, Calls Try.prog 26 #[.agg #[.int .u8 h.tos, .int .u16 h.id, .int .u8 h.fl, .int .u16 h.off, .int .u8 h.ttl, .int .u8 h.pr, .int .u32 h.src, .int .u32 h.dst, SV h.o], SV b] v fun e w' => e = .returned (.tuple #[SV s, .int .i64 0]) ∧ Below v.heap.size v w'))
    (KF : Hid (∀ v, Calls Try.prog 30 #[SV h.o] v fun e w' => e = .returned (SV F) ∧ Below v.heap.size v w'))
    (KD : Hid (∀ v, Calls Try.prog 29 #[SV (s.set k (IntKind.u8.wrap q1))] v fun e w' => e = .returned (.tuple #[.agg #[.int .u8 0, .int .u16 0, .int .u8 0, .int .u16 0, .int .u8 0, .int .u8 0, .int .u32 0, .int .u32 0, .string ⟨#[]⟩], .string ⟨#[]⟩, .int .i64 x]) ∧ Below v.heap.size v w')) :
    Calls Try.prog 11 #[.agg #[.int .u8 h.tos, .int .u16 h.id, .int .u8 h.fl, .int .u16 h.off, .int .u8 h.ttl, .int .u8 h.pr, .int .u32 h.src, .int .u32 h.dst, SV h.o], SV b, .agg #[.int .i64 (k : Int), .int .i64 q1]] w fun e w' => e = .returned (.bool true) ∧ Below w.heap.size w w' := by
  have ks := sv_size
  have hw20 : IntKind.i64.wrap (20 + (F.length : Int)) = 20 + (F.length : Int) := IntWalk.i64_in _ ⟨by omega, by omega⟩
  have hks : k < s.length := by omega
  have d1 : decide ((k : Int) < 1) = false := decide_eq_false (by omega)
  have d2 : decide (20 + (F.length : Int) ≤ (k : Int)) = false := decide_eq_false (by omega)
  have d3 : decide ((s.length : Int) ≤ (k : Int)) = false := decide_eq_false (by omega)
  have d3n : decide (s.length ≤ k) = false := decide_eq_false (by omega)
  obtain ⟨z, hz⟩ : ∃ z, s.getD k 0 = z := ⟨_, rfl⟩
  have hzr := hs.get k
  rw [hz] at hzr
  have hix := fun v => sv_idx hs k z hks hz v
  obtain ⟨y, hy⟩ : ∃ y, IntKind.u8.wrap q1 = y := ⟨_, rfl⟩
  have hy2 : q1 % 256 = y := by rw [← hy, IntKind.wrap_u8]
  have hyr : 0 ≤ y ∧ y ≤ 255 := by omega
  have d4 : (y == z) = false := beq_eq_false_iff_ne.2 (by rw [← hy, ← hz]; exact hq)
  have hcv := conv_string s
  have hxb : (x != 0) = true := bne_iff_ne.2 hx
  have ql : ∀ v, (binOp .eql 9 (.string ⟨#[]⟩) (.string ⟨#[]⟩)).run Try.prog v = .ok (.bool true) v := strq _
  have q2 : ∀ v, (binOp .eql 61 (.agg #[.int .u8 0, .int .u16 0, .int .u8 0, .int .u16 0, .int .u8 0, .int .u8 0, .int .u32 0, .int .u32 0, .string ⟨#[]⟩]) (.agg #[.int .u8 0, .int .u16 0, .int .u8 0, .int .u16 0, .int .u8 0, .int .u8 0, .int .u32 0, .int .u32 0, .string ⟨#[]⟩])).run Try.prog v = .ok (.bool true) v := hdeq HD.zero
  have hki : (k : Int) < (s.length : Int) := by omega
  have htn : (k : Int).toNat = k := Int.toNat_natCast k
  rw [hy] at KD
  go_enter Try.func11, Try.ntmps11
  go_wp2_with fail
  refine (KE.out _).mono ?_
  rintro e w1 ⟨rfl, hb1⟩
  have A1 : Blk w1 (w.heap.size) #[.int .u8 h.tos, .int .u16 h.id, .int .u8 h.fl, .int .u16 h.off, .int .u8 h.ttl, .int .u8 h.pr, .int .u32 h.src, .int .u32 h.dst, SV h.o] 61 := Blk.below (by (repeat' (first | (with_reducible (first | assumption | exact Blk.alloc_new _ _ _ (by first | rfl | (simp; done) | omega) | apply Blk.drewN | apply Blk.drew | apply Blk.alloc_old | apply Blk.set_same | apply Blk.set_other)) | (show (_ : Nat) ≠ _; first | omega | (simp; done) | (simp; omega)) | ((simp only [List.setIfInBounds_toArray, List.set_cons_succ, List.set_cons_zero]); (with_reducible exact rfl)) | (with_reducible exact rfl) | (show (_ : Array Value) = _; exact rfl)))) hb1 (by first | (simp; done) | omega | (simp; omega))
  have Q1 : Blk w1 (w.heap.size + 1) #[.int .i64 k, .int .i64 q1] 74 := Blk.below (by (repeat' (first | (with_reducible (first | assumption | exact Blk.alloc_new _ _ _ (by first | rfl | (simp; done) | omega) | apply Blk.drewN | apply Blk.drew | apply Blk.alloc_old | apply Blk.set_same | apply Blk.set_other)) | (show (_ : Nat) ≠ _; first | omega | (simp; done) | (simp; omega)) | ((simp only [List.setIfInBounds_toArray, List.set_cons_succ, List.set_cons_zero]); (with_reducible exact rfl)) | (with_reducible exact rfl) | (show (_ : Array Value) = _; exact rfl)))) hb1 (by first | (simp; done) | omega | (simp; omega))
  have g1 : Below w.heap.size w w1 := by refine Below.trans ?_ (hb1.mono ?_) <;> (repeat' (first | (with_reducible (first | exact Below.refl _ _ | assumption | refine below_drewN ?_ _ | refine Below.drew ?_ | refine Below.alloc ?_ ?_ _ | refine Below.setCell ?_ ?_ _)) | go_size))
  have hz1 := hb1.size
  (try simp at hz1)
  clear hb1
  replace cA := A1.cell
  replace fA := A1.frozen
  replace zA := A1.size
  replace cQ := Q1.cell
  replace fQ := Q1.frozen
  replace zQ := Q1.size
  go_upto_region 3 with (fail)
  refine wp_forget (fun v => Below w.heap.size w v ∧ Blk v (w.heap.size) #[.int .u8 h.tos, .int .u16 h.id, .int .u8 h.fl, .int .u16 h.off, .int .u8 h.ttl, .int .u8 h.pr, .int .u32 h.src, .int .u32 h.dst, SV h.o] 61 ∧ Blk v (w.heap.size + 1) #[.int .i64 k, .int .i64 q1] 74) ⟨by (repeat' (first | (with_reducible (first | exact Below.refl _ _ | assumption | refine below_drewN ?_ _ | refine Below.drew ?_ | refine Below.alloc ?_ ?_ _ | refine Below.setCell ?_ ?_ _)) | go_size)), by (repeat' (first | (with_reducible (first | assumption | exact Blk.alloc_new _ _ _ (by first | rfl | (simp; done) | omega) | apply Blk.drewN | apply Blk.drew | apply Blk.alloc_old | apply Blk.set_same | apply Blk.set_other)) | (show (_ : Nat) ≠ _; first | omega | (simp; done) | (simp; omega)) | ((simp only [List.setIfInBounds_toArray, List.set_cons_succ, List.set_cons_zero]); (with_reducible exact rfl)) | (with_reducible exact rfl) | (show (_ : Array Value) = _; exact rfl))), by (repeat' (first | (with_reducible (first | assumption | exact Blk.alloc_new _ _ _ (by first | rfl | (simp; done) | omega) | apply Blk.drewN | apply Blk.drew | apply Blk.alloc_old | apply Blk.set_same | apply Blk.set_other)) | (show (_ : Nat) ≠ _; first | omega | (simp; done) | (simp; omega)) | ((simp only [List.setIfInBounds_toArray, List.set_cons_succ, List.set_cons_zero]); (with_reducible exact rfl)) | (with_reducible exact rfl) | (show (_ : Array Value) = _; exact rfl)))⟩ ?_
  rintro v2 ⟨gv2, Av2, Qv2⟩
  have qA2 := blk_calm Av2
  have qQ2 := blk_calm Qv2
  refine wp_region_quiet_below (by kernel_rfl) (by kernel_rfl) ?_
  repeat (go_big_quiet_step ((first
      | (go_at_call 30; (with_reducible exact Calls.regrown_of (KF.out _))))))
  refine wpQuiet_nil ?_
  intro _ hw'
  obtain ⟨pq, hw''⟩ := hw'
  subst hw''
  have hb2 := below_regrown v2 pq.d pq.os
  generalize Sort.grow (redrawn v2 pq.d) pq.os = w2 at *
  have A2 : Blk w2 (w.heap.size) #[.int .u8 h.tos, .int .u16 h.id, .int .u8 h.fl, .int .u16 h.off, .int .u8 h.ttl, .int .u8 h.pr, .int .u32 h.src, .int .u32 h.dst, SV h.o] 61 := Blk.below Av2 hb2 Av2.size
  have Q2 : Blk w2 (w.heap.size + 1) #[.int .i64 k, .int .i64 q1] 74 := Blk.below Qv2 hb2 Qv2.size
  have g2 : Below w.heap.size w w2 := gv2.trans (hb2.mono gv2.size)
  have hz2 : w.heap.size ≤ w2.heap.size := g2.size
  clear hb2 gv2 Av2 qA2 Qv2 qQ2
  replace cA := A2.cell
  replace fA := A2.frozen
  replace zA := A2.size
  replace cQ := Q2.cell
  replace fQ := Q2.frozen
  replace zQ := Q2.size
  go_upto_region 6 with (fail)
  refine wp_forget (fun v => Below w.heap.size w v ∧ Blk v (w.heap.size) #[.int .u8 h.tos, .int .u16 h.id, .int .u8 h.fl, .int .u16 h.off, .int .u8 h.ttl, .int .u8 h.pr, .int .u32 h.src, .int .u32 h.dst, SV h.o] 61 ∧ Blk v (w.heap.size + 1) #[.int .i64 k, .int .i64 q1] 74 ∧ Byts v (w2.heap.size) s) ⟨g2.trans ((below_bytes _ _ _).mono g2.size), Blk.below A2 (below_bytes _ _ _) A2.size, Blk.below Q2 (below_bytes _ _ _) Q2.size, Byts.of_world _ _ hs⟩ ?_
  rintro w5 ⟨g5, A5, Q5, B5⟩
  have hz5 := g5.size
  replace cA := A5.cell; replace fA := A5.frozen; replace zA := A5.size
  replace cQ := Q5.cell; replace fQ := Q5.frozen; replace zQ := Q5.size
  have hN : w.heap.size < w2.heap.size := A2.size
  have cB := B5.cell k hks; have fB := B5.frozen k hks
  go_upto_region 7 with (fail)
  refine wp_forget (fun v => Below w.heap.size w v ∧ Byts v (w2.heap.size) (s.set k y)) ⟨by (repeat' (first | (with_reducible (first | exact Below.refl _ _ | assumption | refine below_drewN ?_ _ | refine Below.drew ?_ | refine Below.alloc ?_ ?_ _ | refine Below.setCell ?_ ?_ _)) | go_size)), B5.set hks y⟩ ?_
  rintro w6 ⟨g6, B6⟩
  have hz6 := g6.size
  clear cA fA zA cQ fQ zQ cB fB
  have hl6 : (s.set k y).length = s.length := List.length_set
  have hcb := conv_bytes B6
  rw [hl6] at hcb
  go_wp2_with fail
  refine (KD.out _).mono ?_
  rintro e w7 ⟨rfl, hb7⟩
  have g7 : Below w.heap.size w w7 := by refine Below.trans ?_ (hb7.mono ?_) <;> (repeat' (first | (with_reducible (first | exact Below.refl _ _ | assumption | refine below_drewN ?_ _ | refine Below.drew ?_ | refine Below.alloc ?_ ?_ _ | refine Below.setCell ?_ ?_ _)) | go_size))
  have hz7 := hb7.size
  (try simp at hz7)
  clear hb7
  go_wp2_with fail
  refine (four_true _).mono ?_
  rintro e w8 ⟨rfl, hb8⟩
  have g8 : Below w.heap.size w w8 := by refine Below.trans ?_ (hb8.mono ?_) <;> (repeat' (first | (with_reducible (first | exact Below.refl _ _ | assumption | refine below_drewN ?_ _ | refine Below.drew ?_ | refine Below.alloc ?_ ?_ _ | refine Below.setCell ?_ ?_ _)) | go_size))
  have hz8 := hb8.size
  (try simp at hz8)
  clear hb8
  go_wp2
  go_ret
  exact ⟨rfl, by (repeat' (first | (with_reducible (first | exact Below.refl _ _ | assumption | refine below_drewN ?_ _ | refine Below.drew ?_ | refine Below.alloc ?_ ?_ _ | refine Below.setCell ?_ ?_ _)) | go_size))⟩
theorem Ipv4Turned_walk (h : HD) (ok : h.ok) (a : ByteArray) (q0 : Int) (hq0 : -9223372036854775808 ≤ q0 ∧ q0 ≤ 9223372036854775807) (q1 : Int) (hq1 : -9223372036854775808 ≤ q1 ∧ q1 ≤ 9223372036854775807) (w : World) (hz1 : h.o.length ≤ 4611686018427387904) (hz2 : a.size ≤ 4611686018427387904) : Calls Try.prog 11 #[hdv h, .string a, .agg #[.int .i64 q0, .int .i64 q1]] w fun e w' => e = .returned (.bool true) ∧ Below w.heap.size w w' := by
  rw [numsOf_sv a]
  have hl := numsOf_byt a
  have hb : (numsOf a).length ≤ 4611686018427387904 := by rw [numsOf_len]; exact hz2
  generalize numsOf a = b at hl hb ⊢
  by_cases h0 : wrongR h b.length = 0
  · obtain ⟨h1, h2, h3, h4⟩ := wrong_zero h0
    obtain ⟨d1, d2, d3⟩ := dec_enc ok h0
    have hF := full_forty h3
    have hsz := enc_sz h0
    have hlen := enc_len h b
    have hby := enc_byt ok hl h0
    have KE := hide (show ∀ v, Calls Try.prog 26 #[hdv h, SV b] v fun e w' => e = .returned (.tuple #[SV (encR h b), .int .i64 0]) ∧ Below v.heap.size v w' from fun v => by
      have k := ipEncode h b v ok hz1 hb; rw [h0, if_pos rfl] at k; exact k)
    have KF := hide (show ∀ v, Calls Try.prog 30 #[SV h.o] v fun e w' => e = .returned (SV (full h.o)) ∧ Below v.heap.size v w' from fun v => ipFull h.o (full h.o) v hz1 rfl)
    by_cases c1 : q0 < 1
    · exact turned_small h b [] (encR h b) 0 q1 q0 w c1 KE
    by_cases c2 : 20 + ((full h.o).length : Int) ≤ q0
    · exact turned_big h b (full h.o) (encR h b) 0 q1 q0 w hF.1 c2 KE KF
    obtain ⟨k, rfl⟩ : ∃ k : Nat, q0 = (k : Int) := ⟨q0.toNat, by omega⟩
    by_cases c3 : IntKind.u8.wrap q1 = (encR h b).getD k 0
    · exact turned_same h b (full h.o) (encR h b) 0 q1 k w hF.1 hby (by omega) (by omega) (by omega) (by omega) c3 KE KF
    · have hyr : 0 ≤ IntKind.u8.wrap q1 ∧ IntKind.u8.wrap q1 ≤ 255 := by rw [IntKind.wrap_u8]; omega
      have hx := turned (i := k) hby d1 (by omega) (by omega) hyr c3
      have ht : Byt ((encR h b).set k (IntKind.u8.wrap q1)) := fun x hx => (List.mem_or_eq_of_mem_set hx).elim (hby x) (fun e => e ▸ hyr)
      exact turned_main h b (full h.o) (encR h b) (badR ((encR h b).set k (IntKind.u8.wrap q1))) q1 k w hF.1 hby (by omega) (by omega) (by omega) (by omega) c3 hx KE KF (hide fun v => by
        have r := ipDecode ((encR h b).set k (IntKind.u8.wrap q1)) v ht (by rw [List.length_set]; omega); rw [decV_bad rfl hx] at r; exact r)
  · exact turned_e h b [] [] (wrongR h b.length) q1 q0 w h0 (hide fun v => by
      have k := ipEncode h b v ok hz1 hb; rw [if_neg h0] at k; exact k)
namespace ipv4TurnedDone
theorem own : ownKnob Try.prog.godebug = none := by kernel_rfl
theorem laidOut : laidOutB Try.prog = true := by kernel_rfl
set_option maxRecDepth 100000 in
theorem lifted (os : Os) (started : os.Started) (H : Type) (enc : TypeId × Value → H) :
    ReturnsInHanded {} Try.checked os 11 .any (Rows.ipv4TurnedSpec.pre6 enc Try.prog Try.f11 Rows.ipv4TurnedRow.domain false) (Rows.ipv4TurnedSpec.post enc Try.prog Try.f11 false true false false) := by
  refine returnsInHanded_of_change_sized (C := Try.checked) own started (by kernel_rfl) Try.func11
    (ChangeSpec.witness6 (enc := enc) (C := Try.checked) false ⟨#[], #[.agg #[.int .u8 0, .int .u16 0, .int .u8 0, .int .u16 0, .int .u8 0, .int .u8 0, .int .u32 0, .int .u32 0, .string ⟨#[]⟩], .string ⟨#[]⟩, .agg #[.int .i64 0, .int .i64 0]], []⟩ 8 (by kernel_rfl) (by kernel_rfl) (by kernel_rfl) (by kernel_rfl)) ?_
  intro W base args ds gs before hval0 hW hcnd hwt _
  have hval : ∀ (j : Nat) t v, Try.f11.params[j]? = some t → args[j]? = some v → Value.okWide Try.prog W .any base t v := hval0
  have hW' := hW
  obtain ⟨p, q, hA0, hV, rfl, hfz, hnd⟩ := hW
  have hA : DataW.TrodAll enc Try.prog W 0 (fun _ => true) true Try.f11.params.toList args.toList ds p := hA0
  rw [Try.params11] at hA hval
  obtain ⟨v0, vs0, d0, ds0, p0, q0, hargs, rfl, rfl, h0, r0⟩ := trodAll_cons hA
  obtain ⟨v1, vs1, d1, ds1, p1, q1, rfl, rfl, rfl, h1, r1⟩ := trodAll_cons r0
  obtain ⟨v2, vs2, d2, ds2, p2, q2, rfl, rfl, rfl, h2, r2⟩ := trodAll_cons r1
  obtain ⟨rfl, rfl, rfl⟩ := trodAll_nil r2
  obtain rfl : args = #[v0, v1, v2] := by cases args; simp_all
  obtain ⟨rfl, rfl⟩ := trodVars_none hV
  have k0 := h0
  have lt0 : ∀ x ∈ p0, x.block < W.heap.size := by obtain ⟨m, hm⟩ := k0; exact DataW.trod_lt m _ _ _ hm
  obtain ⟨hh0, hs0, rfl, hok0, ho0, hw0⟩ := open_ip44h (hval 0 61 v0 rfl rfl) h0
  obtain ⟨a1, rfl, rfl, rfl, wf1⟩ := open_string Try.underlying9 (hval 1 9 v1 rfl rfl) h1
  have k2 := h2
  have lt2 : ∀ x ∈ p2, x.block < W.heap.size := by obtain ⟨m, hm⟩ := k2; exact DataW.trod_lt m _ _ _ hm
  obtain ⟨a2_0, a2_1, rfl, wf2_0, wf2_1⟩ := open_arr2 Try.underlying74 Try.underlying3 (by kernel_rfl) (by kernel_rfl) (hval 2 74 v2 rfl rfl) h2
  have b2_0 := bounds_i64 wf2_0
  have b2_1 := bounds_i64 wf2_1
  clear hA0 hval0
  have hzz : hs0.size ≤ 140737488351232 ∧ a1.size ≤ 140737488351232 := by have hw' : DataW.weights Try.checked.prog 61 d0 = [hs0.size] := hw0; simp [DataW.weightsEach, DataW.weights, Try.params11, reachBytes] at hwt; exact ⟨of_decide_eq_true (hwt.1 _ (by rw [hw']; simp)), of_decide_eq_true hwt.2.1⟩
  refine (Ipv4Turned_walk hh0 hok0 a1 a2_0 b2_0 a2_1 b2_1 W (by rw [ho0, numsOf_len]; omega) (by omega)).mono fun e W' ⟨he, bel⟩ => ?_
  subst he
  exact ⟨_, rfl, _, _, _, [], _, [], hW', trodAll_mk1 (shut_bool Try.underlying4 _), (trodAll_cons_mk (Below.trod laidOut (by kernel_rfl) (of_decide_eq_true (by kernel_rfl)) k0 bel lt0) (trodAll_cons_mk (shut_string Try.underlying9 wf1) (trodAll_cons_mk (Below.trod laidOut (by kernel_rfl) (of_decide_eq_true (by kernel_rfl)) k2 bel lt2) trodAll_mk0))), rfl, bel.frame _, fun h => by cases h⟩
theorem over : Rows.ipv4TurnedRow.holds Try.pinned (OpenSpec.ofChange Rows.ipv4TurnedSpec) :=
  OpenClaim.holds_of_wide 11 Try.f11 rfl rfl rfl rfl rfl rfl rfl ⟨rfl, rfl, rfl, rfl, rfl⟩ rfl rfl rfl rfl rfl (by kernel_rfl) Try.func11 (by kernel_rfl)
    (of_decide_eq_true (by kernel_rfl)) (by unfold Func.isWrapper; first | (rw [if_pos (by decide +kernel)]; kernel_rfl) | (rw [if_neg (by decide +kernel)]; exact ⟨rfl, rfl⟩))
    (fun os started H enc _ => lifted os started H enc)
end ipv4TurnedDone
theorem Ipv4Turned_holds : Rows.Ipv4TurnedSaid := ipv4TurnedDone.over

end Go.Proofs.Ytldahcfggeebgaa
