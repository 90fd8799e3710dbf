/-
  'floodgatelaw45.FlowKeys' returns true for every input. Conditions: none.
-/
import Derived.Test.YtljpiofpfankoaaFlN
import Derived.Test.YtljpiofpfankoaaFrame
import Derived.SizedLaws
import Derived.ChangeMaps5
namespace Go.Proofs.Ytljpiofpfankoaa
open Go.RowKit Go.Sort Go.ChangeShapes Go.WideShapes Go.ChangeAt
open Go.ChangeMaps (open_string shut_string)
set_option linter.unusedVariables false
set_option linter.unusedSimpArgs false
/-- A string's bytes as numbers. -/
def numsOf (a : ByteArray) : List Int := a.data.toList.map fun b => (b.toNat : Int)
theorem numsOf_str (a : ByteArray) : strOfNums (numsOf a) = a := by
  unfold strOfNums numsOf
  rw [List.map_map]
  have : ((fun n : Int => UInt8.ofNat n.toNat) ∘ fun b : UInt8 => (b.toNat : Int)) = id := by
    funext b
    show UInt8.ofNat ((b.toNat : Int).toNat) = b
    rw [Int.toNat_natCast]; exact UInt8.ofNat_toNat
  rw [this, List.map_id, Array.toArray_toList]
theorem numsOf_len (a : ByteArray) : (numsOf a).length = a.size := by
  show (List.map _ a.data.toList).length = a.data.size
  rw [List.length_map, Array.length_toList]
theorem numsOf_sv (a : ByteArray) : Value.string a = SV (numsOf a) := by
  show Value.string a = .string (strOfNums (numsOf a))
  rw [numsOf_str]
theorem numsOf_byt (a : ByteArray) : Byt (numsOf a) := by
  intro x hx
  obtain ⟨b, _, rfl⟩ := List.mem_map.1 hx
  have := b.toNat_lt
  omega
theorem rkey (l b : List Int) (h : HD) (w : World) (ok : h.ok) (hb : Byt b) (hbl : b.length ≤ 4611686018427387904)
    (KH : Hid (∀ v, Calls Try.prog 51 #[SV l] v fun e w' => e = .returned (.agg #[.int .u8 h.tos, .int .u16 h.id, .int .u8 h.fl, .int .u16 h.off, .int .u8 h.ttl, .int .u8 h.pr, .int .u32 h.src, .int .u32 h.dst, SV h.o]) ∧ Below v.heap.size v w'))
    (KY : Hid (∀ v, Calls Try.prog 52 #[SV l] v fun e w' => e = .returned (SV b) ∧ Below v.heap.size v w')) :
    Calls Try.prog 30 #[SV l] w fun e w' => e = .returned (kv (keyL h b)) ∧ Below w.heap.size w w' := by
  have hm := mixed_eq (s := h.src) (d := h.dst) ok.2.2.2.2.2.2.1.1 ok.2.2.2.2.2.2.2.1.1
  unfold keyL
  rw [hm]
  by_cases h6 : h.pr = 6
  · by_cases h0 : h.off = 0
    · by_cases h4 : 4 ≤ b.length
      · have hp : portB h b := ⟨.inl h6, h0, h4⟩
        rw [if_pos hp, if_pos hp]
        exact rkey_d6 l b h _ _ _ _ w ok hbl rfl rfl rfl rfl _ _ hb h6 h0 h4 rfl rfl KH KY
      · have hp : ¬ portB h b := fun q => h4 q.2.2
        rw [if_neg hp, if_neg hp]
        exact rkey_c6 l b h _ _ _ _ w ok hbl rfl rfl rfl rfl h6 h0 (by omega) KH KY
    · have hp : ¬ portB h b := fun q => h0 q.2.1
      rw [if_neg hp, if_neg hp]
      exact rkey_b6 l b h _ _ _ _ w ok hbl rfl rfl rfl rfl h6 h0 KH KY
  by_cases h17 : h.pr = 17
  · by_cases h0 : h.off = 0
    · by_cases h4 : 4 ≤ b.length
      · have hp : portB h b := ⟨.inr h17, h0, h4⟩
        rw [if_pos hp, if_pos hp]
        exact rkey_d17 l b h _ _ _ _ w ok hbl rfl rfl rfl rfl _ _ hb h17 h0 h4 rfl rfl KH KY
      · have hp : ¬ portB h b := fun q => h4 q.2.2
        rw [if_neg hp, if_neg hp]
        exact rkey_c17 l b h _ _ _ _ w ok hbl rfl rfl rfl rfl h17 h0 (by omega) KH KY
    · have hp : ¬ portB h b := fun q => h0 q.2.1
      rw [if_neg hp, if_neg hp]
      exact rkey_b17 l b h _ _ _ _ w ok hbl rfl rfl rfl rfl h17 h0 KH KY
  · have hn : ¬ portB h b := by rintro ⟨q | q, _⟩ <;> contradiction
    rw [if_neg hn, if_neg hn]
    exact rkey_a l b h _ _ _ _ w ok hbl rfl rfl rfl rfl h6 h17 KH KY
set_option maxRecDepth 100000 in
set_option maxHeartbeats 4000000 in
theorem keys_bad (l : List Int) (id most x : Int) (k : K4) (w : World) (hid : 0 ≤ id ∧ id ≤ 18446744073709551615) (hmo : -9223372036854775808 ≤ most ∧ most ≤ 9223372036854775807) (hb : l.length ≤ 4611686018427387904) (hx : 1 ≤ x ∧ x ≤ 7)
    (KK : Hid (∀ v, Calls Try.prog 26 #[SV l] v fun e w' => e = .returned (.tuple #[.agg #[.int .u16 0, .int .u16 0, .int .u16 0, .int .u16 0], .int .i64 x]) ∧ Below v.heap.size v w'))
    (KP : Hid (∀ v, Calls Try.prog 27 #[.int .u64 id, SV l, .int .i64 most] v fun e w' => e = .returned (.tuple #[.agg #[.int .u64 0, .int .i64 0, .int .u16 0, .int .u16 0, .int .u16 0, .int .u16 0], .int .i64 x]) ∧ Below v.heap.size v w'))
    (KB : Hid (∀ v, Calls Try.prog 28 #[SV l] v fun e w' => e = .returned (.int .i64 x) ∧ Below v.heap.size v w')) :
    Calls Try.prog 7 #[SV l, .int .u64 id, .int .i64 most] w fun e w' => e = .returned (.bool true) ∧ Below w.heap.size w w' := by
  have ks := sv_size
  have q1 : ∀ v, (binOp .eql 48 (.agg #[.int .u16 0, .int .u16 0, .int .u16 0, .int .u16 0]) (.agg #[.int .u16 0, .int .u16 0, .int .u16 0, .int .u16 0])).run Try.prog v = .ok (.bool true) v := keq ⟨0, 0, 0, 0⟩
  have q2 : ∀ v, (binOp .eql 50 (.agg #[.int .u64 0, .int .i64 0, .int .u16 0, .int .u16 0, .int .u16 0, .int .u16 0]) (.agg #[.int .u64 0, .int .i64 0, .int .u16 0, .int .u16 0, .int .u16 0, .int .u16 0])).run Try.prog v = .ok (.bool true) v := pkeq 0 0 ⟨0, 0, 0, 0⟩
  have q3 : ∀ v, (binOp .neq 48 (.agg #[.int .u16 k.a, .int .u16 k.b, .int .u16 k.c, .int .u16 k.d]) (.agg #[.int .u16 k.a, .int .u16 k.b, .int .u16 k.c, .int .u16 k.d])).run Try.prog v = .ok (.bool false) v := kneq k
  have q4 : ∀ v, (binOp .eql 50 (.agg #[.int .u64 id, .int .i64 l.length, .int .u16 k.a, .int .u16 k.b, .int .u16 k.c, .int .u16 k.d]) (.agg #[.int .u64 id, .int .i64 l.length, .int .u16 k.a, .int .u16 k.b, .int .u16 k.c, .int .u16 k.d])).run Try.prog v = .ok (.bool true) v := pkeq id l.length k
  have hxb : (x != 0) = true := bne_iff_ne.2 (by omega)
  go_enter Try.func7, Try.ntmps7
  go_wp2_with fail
  refine (KK.out _).mono ?_
  rintro e w1 ⟨rfl, hb1⟩
  have g1 : Below w.heap.size w w1 := by refine Below.trans ?_ (hb1.mono ?_) <;> (repeat' (first | (with_reducible (first | exact Below.refl _ _ | assumption | refine below_drewN ?_ _ | refine Below.drew ?_ | refine Below.alloc ?_ ?_ _ | refine Below.setCell ?_ ?_ _)) | go_size))
  have hz1 := hb1.size
  (try simp at hz1)
  clear hb1
  go_wp2_with fail
  refine (KP.out _).mono ?_
  rintro e w2 ⟨rfl, hb2⟩
  have Q2 : Blk w2 (w1.heap.size) #[.int .u16 0, .int .u16 0, .int .u16 0, .int .u16 0] 48 := Blk.below (by (repeat' (first | (with_reducible (first | assumption | exact Blk.alloc_new _ _ _ (by first | rfl | (simp; done) | omega) | apply Blk.drewN | apply Blk.drew | apply Blk.alloc_old | apply Blk.set_same | apply Blk.set_other)) | (show (_ : Nat) ≠ _; first | omega | (simp; done) | (simp; omega)) | ((simp only [List.setIfInBounds_toArray, List.set_cons_succ, List.set_cons_zero]); (with_reducible exact rfl)) | (with_reducible exact rfl) | (show (_ : Array Value) = _; exact rfl)))) hb2 (by first | (simp; done) | omega | (simp; omega))
  have g2 : Below w.heap.size w w2 := by refine Below.trans ?_ (hb2.mono ?_) <;> (repeat' (first | (with_reducible (first | exact Below.refl _ _ | assumption | refine below_drewN ?_ _ | refine Below.drew ?_ | refine Below.alloc ?_ ?_ _ | refine Below.setCell ?_ ?_ _)) | go_size))
  have hz2 := hb2.size
  (try simp at hz2)
  clear hb2
  replace cQ := Q2.cell
  replace fQ := Q2.frozen
  replace zQ := Q2.size
  go_wp2_with fail
  refine (KB.out _).mono ?_
  rintro e w3 ⟨rfl, hb3⟩
  have Q3 : Blk w3 (w1.heap.size) #[.int .u16 0, .int .u16 0, .int .u16 0, .int .u16 0] 48 := Blk.below (by (repeat' (first | (with_reducible (first | assumption | exact Blk.alloc_new _ _ _ (by first | rfl | (simp; done) | omega) | apply Blk.drewN | apply Blk.drew | apply Blk.alloc_old | apply Blk.set_same | apply Blk.set_other)) | (show (_ : Nat) ≠ _; first | omega | (simp; done) | (simp; omega)) | ((simp only [List.setIfInBounds_toArray, List.set_cons_succ, List.set_cons_zero]); (with_reducible exact rfl)) | (with_reducible exact rfl) | (show (_ : Array Value) = _; exact rfl)))) hb3 (by first | (simp; done) | omega | (simp; omega))
  have P3 : Blk w3 (w2.heap.size) #[.int .u64 0, .int .i64 0, .int .u16 0, .int .u16 0, .int .u16 0, .int .u16 0] 50 := Blk.below (by (repeat' (first | (with_reducible (first | assumption | exact Blk.alloc_new _ _ _ (by first | rfl | (simp; done) | omega) | apply Blk.drewN | apply Blk.drew | apply Blk.alloc_old | apply Blk.set_same | apply Blk.set_other)) | (show (_ : Nat) ≠ _; first | omega | (simp; done) | (simp; omega)) | ((simp only [List.setIfInBounds_toArray, List.set_cons_succ, List.set_cons_zero]); (with_reducible exact rfl)) | (with_reducible exact rfl) | (show (_ : Array Value) = _; exact rfl)))) hb3 (by first | (simp; done) | omega | (simp; omega))
  have g3 : Below w.heap.size w w3 := by refine Below.trans ?_ (hb3.mono ?_) <;> (repeat' (first | (with_reducible (first | exact Below.refl _ _ | assumption | refine below_drewN ?_ _ | refine Below.drew ?_ | refine Below.alloc ?_ ?_ _ | refine Below.setCell ?_ ?_ _)) | go_size))
  have hz3 := hb3.size
  (try simp at hz3)
  clear hb3
  replace cQ := Q3.cell
  replace fQ := Q3.frozen
  replace zQ := Q3.size
  replace cP := P3.cell
  replace fP := P3.frozen
  replace zP := P3.size
  go_wp2_with fail
  refine (names_true _).mono ?_
  rintro e w4 ⟨rfl, hb4⟩
  have g4 : Below w.heap.size w w4 := by refine Below.trans ?_ (hb4.mono ?_) <;> (repeat' (first | (with_reducible (first | exact Below.refl _ _ | assumption | refine below_drewN ?_ _ | refine Below.drew ?_ | refine Below.alloc ?_ ?_ _ | refine Below.setCell ?_ ?_ _)) | go_size))
  have hz4 := hb4.size
  (try simp at hz4)
  clear hb4
  go_wp2
  go_ret
  exact ⟨rfl, by (repeat' (first | (with_reducible (first | exact Below.refl _ _ | assumption | refine below_drewN ?_ _ | refine Below.drew ?_ | refine Below.alloc ?_ ?_ _ | refine Below.setCell ?_ ?_ _)) | go_size))⟩
set_option maxRecDepth 100000 in
set_option maxHeartbeats 4000000 in
theorem keys_most (l : List Int) (id most x : Int) (k : K4) (w : World) (hid : 0 ≤ id ∧ id ≤ 18446744073709551615) (hmo : -9223372036854775808 ≤ most ∧ most ≤ 9223372036854775807) (hb : l.length ≤ 4611686018427387904) (h1 : most < (l.length : Int))
    (KK : Hid (∀ v, Calls Try.prog 26 #[SV l] v fun e w' => e = .returned (.tuple #[.agg #[.int .u16 k.a, .int .u16 k.b, .int .u16 k.c, .int .u16 k.d], .int .i64 0]) ∧ Below v.heap.size v w'))
    (KP : Hid (∀ v, Calls Try.prog 27 #[.int .u64 id, SV l, .int .i64 most] v fun e w' => e = .returned (.tuple #[.agg #[.int .u64 0, .int .i64 0, .int .u16 0, .int .u16 0, .int .u16 0, .int .u16 0], .int .i64 26]) ∧ Below v.heap.size v w'))
    (KB : Hid (∀ v, Calls Try.prog 28 #[SV l] v fun e w' => e = .returned (.int .i64 0) ∧ Below v.heap.size v w'))
    (KR : Hid (∀ v, Calls Try.prog 30 #[SV l] v fun e w' => e = .returned (.agg #[.int .u16 k.a, .int .u16 k.b, .int .u16 k.c, .int .u16 k.d]) ∧ Below v.heap.size v w')) :
    Calls Try.prog 7 #[SV l, .int .u64 id, .int .i64 most] w fun e w' => e = .returned (.bool true) ∧ Below w.heap.size w w' := by
  have ks := sv_size
  have q1 : ∀ v, (binOp .eql 48 (.agg #[.int .u16 0, .int .u16 0, .int .u16 0, .int .u16 0]) (.agg #[.int .u16 0, .int .u16 0, .int .u16 0, .int .u16 0])).run Try.prog v = .ok (.bool true) v := keq ⟨0, 0, 0, 0⟩
  have q2 : ∀ v, (binOp .eql 50 (.agg #[.int .u64 0, .int .i64 0, .int .u16 0, .int .u16 0, .int .u16 0, .int .u16 0]) (.agg #[.int .u64 0, .int .i64 0, .int .u16 0, .int .u16 0, .int .u16 0, .int .u16 0])).run Try.prog v = .ok (.bool true) v := pkeq 0 0 ⟨0, 0, 0, 0⟩
  have q3 : ∀ v, (binOp .neq 48 (.agg #[.int .u16 k.a, .int .u16 k.b, .int .u16 k.c, .int .u16 k.d]) (.agg #[.int .u16 k.a, .int .u16 k.b, .int .u16 k.c, .int .u16 k.d])).run Try.prog v = .ok (.bool false) v := kneq k
  have q4 : ∀ v, (binOp .eql 50 (.agg #[.int .u64 id, .int .i64 l.length, .int .u16 k.a, .int .u16 k.b, .int .u16 k.c, .int .u16 k.d]) (.agg #[.int .u64 id, .int .i64 l.length, .int .u16 k.a, .int .u16 k.b, .int .u16 k.c, .int .u16 k.d])).run Try.prog v = .ok (.bool true) v := pkeq id l.length k
  have d1 : decide (most < (l.length : Int)) = true := decide_eq_true h1
  go_enter Try.func7, Try.ntmps7
  go_wp2_with fail
  refine (KK.out _).mono ?_
  rintro e w1 ⟨rfl, hb1⟩
  have g1 : Below w.heap.size w w1 := by refine Below.trans ?_ (hb1.mono ?_) <;> (repeat' (first | (with_reducible (first | exact Below.refl _ _ | assumption | refine below_drewN ?_ _ | refine Below.drew ?_ | refine Below.alloc ?_ ?_ _ | refine Below.setCell ?_ ?_ _)) | go_size))
  have hz1 := hb1.size
  (try simp at hz1)
  clear hb1
  go_wp2_with fail
  refine (KP.out _).mono ?_
  rintro e w2 ⟨rfl, hb2⟩
  have Q2 : Blk w2 (w1.heap.size) #[.int .u16 k.a, .int .u16 k.b, .int .u16 k.c, .int .u16 k.d] 48 := Blk.below (by (repeat' (first | (with_reducible (first | assumption | exact Blk.alloc_new _ _ _ (by first | rfl | (simp; done) | omega) | apply Blk.drewN | apply Blk.drew | apply Blk.alloc_old | apply Blk.set_same | apply Blk.set_other)) | (show (_ : Nat) ≠ _; first | omega | (simp; done) | (simp; omega)) | ((simp only [List.setIfInBounds_toArray, List.set_cons_succ, List.set_cons_zero]); (with_reducible exact rfl)) | (with_reducible exact rfl) | (show (_ : Array Value) = _; exact rfl)))) hb2 (by first | (simp; done) | omega | (simp; omega))
  have g2 : Below w.heap.size w w2 := by refine Below.trans ?_ (hb2.mono ?_) <;> (repeat' (first | (with_reducible (first | exact Below.refl _ _ | assumption | refine below_drewN ?_ _ | refine Below.drew ?_ | refine Below.alloc ?_ ?_ _ | refine Below.setCell ?_ ?_ _)) | go_size))
  have hz2 := hb2.size
  (try simp at hz2)
  clear hb2
  replace cQ := Q2.cell
  replace fQ := Q2.frozen
  replace zQ := Q2.size
  go_wp2_with fail
  refine (KB.out _).mono ?_
  rintro e w3 ⟨rfl, hb3⟩
  have Q3 : Blk w3 (w1.heap.size) #[.int .u16 k.a, .int .u16 k.b, .int .u16 k.c, .int .u16 k.d] 48 := Blk.below (by (repeat' (first | (with_reducible (first | assumption | exact Blk.alloc_new _ _ _ (by first | rfl | (simp; done) | omega) | apply Blk.drewN | apply Blk.drew | apply Blk.alloc_old | apply Blk.set_same | apply Blk.set_other)) | (show (_ : Nat) ≠ _; first | omega | (simp; done) | (simp; omega)) | ((simp only [List.setIfInBounds_toArray, List.set_cons_succ, List.set_cons_zero]); (with_reducible exact rfl)) | (with_reducible exact rfl) | (show (_ : Array Value) = _; exact rfl)))) hb3 (by first | (simp; done) | omega | (simp; omega))
  have P3 : Blk w3 (w2.heap.size) #[.int .u64 0, .int .i64 0, .int .u16 0, .int .u16 0, .int .u16 0, .int .u16 0] 50 := Blk.below (by (repeat' (first | (with_reducible (first | assumption | exact Blk.alloc_new _ _ _ (by first | rfl | (simp; done) | omega) | apply Blk.drewN | apply Blk.drew | apply Blk.alloc_old | apply Blk.set_same | apply Blk.set_other)) | (show (_ : Nat) ≠ _; first | omega | (simp; done) | (simp; omega)) | ((simp only [List.setIfInBounds_toArray, List.set_cons_succ, List.set_cons_zero]); (with_reducible exact rfl)) | (with_reducible exact rfl) | (show (_ : Array Value) = _; exact rfl)))) hb3 (by first | (simp; done) | omega | (simp; omega))
  have g3 : Below w.heap.size w w3 := by refine Below.trans ?_ (hb3.mono ?_) <;> (repeat' (first | (with_reducible (first | exact Below.refl _ _ | assumption | refine below_drewN ?_ _ | refine Below.drew ?_ | refine Below.alloc ?_ ?_ _ | refine Below.setCell ?_ ?_ _)) | go_size))
  have hz3 := hb3.size
  (try simp at hz3)
  clear hb3
  replace cQ := Q3.cell
  replace fQ := Q3.frozen
  replace zQ := Q3.size
  replace cP := P3.cell
  replace fP := P3.frozen
  replace zP := P3.size
  go_upto_region 6 with (fail)
  refine wp_forget (fun v => Below w.heap.size w v ∧ Blk v (w1.heap.size) #[.int .u16 k.a, .int .u16 k.b, .int .u16 k.c, .int .u16 k.d] 48 ∧ Blk v (w2.heap.size) #[.int .u64 0, .int .i64 0, .int .u16 0, .int .u16 0, .int .u16 0, .int .u16 0] 50) ⟨by (repeat' (first | (with_reducible (first | exact Below.refl _ _ | assumption | refine below_drewN ?_ _ | refine Below.drew ?_ | refine Below.alloc ?_ ?_ _ | refine Below.setCell ?_ ?_ _)) | go_size)), by (repeat' (first | (with_reducible (first | assumption | exact Blk.alloc_new _ _ _ (by first | rfl | (simp; done) | omega) | apply Blk.drewN | apply Blk.drew | apply Blk.alloc_old | apply Blk.set_same | apply Blk.set_other)) | (show (_ : Nat) ≠ _; first | omega | (simp; done) | (simp; omega)) | ((simp only [List.setIfInBounds_toArray, List.set_cons_succ, List.set_cons_zero]); (with_reducible exact rfl)) | (with_reducible exact rfl) | (show (_ : Array Value) = _; exact rfl))), by (repeat' (first | (with_reducible (first | assumption | exact Blk.alloc_new _ _ _ (by first | rfl | (simp; done) | omega) | apply Blk.drewN | apply Blk.drew | apply Blk.alloc_old | apply Blk.set_same | apply Blk.set_other)) | (show (_ : Nat) ≠ _; first | omega | (simp; done) | (simp; omega)) | ((simp only [List.setIfInBounds_toArray, List.set_cons_succ, List.set_cons_zero]); (with_reducible exact rfl)) | (with_reducible exact rfl) | (show (_ : Array Value) = _; exact rfl)))⟩ ?_
  rintro v4 ⟨gv4, Qv4, Pv4⟩
  have qQ4 := blk_calm Qv4
  have qP4 := blk_calm Pv4
  refine wp_region_quiet_below (by kernel_rfl) (by kernel_rfl) ?_
  repeat (go_big_quiet_step ((first
      | (go_at_call 30; (with_reducible exact Calls.regrown_of (KR.out _))))))
  refine wpQuiet_nil ?_
  intro _ hw'
  obtain ⟨pq, hw''⟩ := hw'
  subst hw''
  have hb4 := below_regrown v4 pq.d pq.os
  generalize Sort.grow (redrawn v4 pq.d) pq.os = w4 at *
  have Q4 : Blk w4 (w1.heap.size) #[.int .u16 k.a, .int .u16 k.b, .int .u16 k.c, .int .u16 k.d] 48 := Blk.below Qv4 hb4 Qv4.size
  have P4 : Blk w4 (w2.heap.size) #[.int .u64 0, .int .i64 0, .int .u16 0, .int .u16 0, .int .u16 0, .int .u16 0] 50 := Blk.below Pv4 hb4 Pv4.size
  have g4 : Below w.heap.size w w4 := gv4.trans (hb4.mono gv4.size)
  have hz4 : w.heap.size ≤ w4.heap.size := g4.size
  clear hb4 gv4 Qv4 qQ4 Pv4 qP4
  replace cQ := Q4.cell
  replace fQ := Q4.frozen
  replace zQ := Q4.size
  replace cP := P4.cell
  replace fP := P4.frozen
  replace zP := P4.size
  go_wp2_with fail
  refine (names_true _).mono ?_
  rintro e w5 ⟨rfl, hb5⟩
  have g5 : Below w.heap.size w w5 := by refine Below.trans ?_ (hb5.mono ?_) <;> (repeat' (first | (with_reducible (first | exact Below.refl _ _ | assumption | refine below_drewN ?_ _ | refine Below.drew ?_ | refine Below.alloc ?_ ?_ _ | refine Below.setCell ?_ ?_ _)) | go_size))
  have hz5 := hb5.size
  (try simp at hz5)
  clear hb5
  go_wp2
  go_ret
  exact ⟨rfl, by (repeat' (first | (with_reducible (first | exact Below.refl _ _ | assumption | refine below_drewN ?_ _ | refine Below.drew ?_ | refine Below.alloc ?_ ?_ _ | refine Below.setCell ?_ ?_ _)) | go_size))⟩
set_option maxRecDepth 100000 in
set_option maxHeartbeats 4000000 in
theorem keys_long (l : List Int) (id most x : Int) (k : K4) (w : World) (hid : 0 ≤ id ∧ id ≤ 18446744073709551615) (hmo : -9223372036854775808 ≤ most ∧ most ≤ 9223372036854775807) (hb : l.length ≤ 4611686018427387904) (h1 : ¬ most < (l.length : Int)) (h2 : 16384 < l.length)
    (KK : Hid (∀ v, Calls Try.prog 26 #[SV l] v fun e w' => e = .returned (.tuple #[.agg #[.int .u16 k.a, .int .u16 k.b, .int .u16 k.c, .int .u16 k.d], .int .i64 0]) ∧ Below v.heap.size v w'))
    (KP : Hid (∀ v, Calls Try.prog 27 #[.int .u64 id, SV l, .int .i64 most] v fun e w' => e = .returned (.tuple #[.agg #[.int .u64 0, .int .i64 0, .int .u16 0, .int .u16 0, .int .u16 0, .int .u16 0], .int .i64 26]) ∧ Below v.heap.size v w'))
    (KB : Hid (∀ v, Calls Try.prog 28 #[SV l] v fun e w' => e = .returned (.int .i64 0) ∧ Below v.heap.size v w'))
    (KR : Hid (∀ v, Calls Try.prog 30 #[SV l] v fun e w' => e = .returned (.agg #[.int .u16 k.a, .int .u16 k.b, .int .u16 k.c, .int .u16 k.d]) ∧ Below v.heap.size v w')) :
    Calls Try.prog 7 #[SV l, .int .u64 id, .int .i64 most] w fun e w' => e = .returned (.bool true) ∧ Below w.heap.size w w' := by
  have ks := sv_size
  have q1 : ∀ v, (binOp .eql 48 (.agg #[.int .u16 0, .int .u16 0, .int .u16 0, .int .u16 0]) (.agg #[.int .u16 0, .int .u16 0, .int .u16 0, .int .u16 0])).run Try.prog v = .ok (.bool true) v := keq ⟨0, 0, 0, 0⟩
  have q2 : ∀ v, (binOp .eql 50 (.agg #[.int .u64 0, .int .i64 0, .int .u16 0, .int .u16 0, .int .u16 0, .int .u16 0]) (.agg #[.int .u64 0, .int .i64 0, .int .u16 0, .int .u16 0, .int .u16 0, .int .u16 0])).run Try.prog v = .ok (.bool true) v := pkeq 0 0 ⟨0, 0, 0, 0⟩
  have q3 : ∀ v, (binOp .neq 48 (.agg #[.int .u16 k.a, .int .u16 k.b, .int .u16 k.c, .int .u16 k.d]) (.agg #[.int .u16 k.a, .int .u16 k.b, .int .u16 k.c, .int .u16 k.d])).run Try.prog v = .ok (.bool false) v := kneq k
  have q4 : ∀ v, (binOp .eql 50 (.agg #[.int .u64 id, .int .i64 l.length, .int .u16 k.a, .int .u16 k.b, .int .u16 k.c, .int .u16 k.d]) (.agg #[.int .u64 id, .int .i64 l.length, .int .u16 k.a, .int .u16 k.b, .int .u16 k.c, .int .u16 k.d])).run Try.prog v = .ok (.bool true) v := pkeq id l.length k
  have d1 : decide (most < (l.length : Int)) = false := decide_eq_false h1
  have d2 : decide (16384 < (l.length : Int)) = true := decide_eq_true (by omega)
  have d2n : decide (16384 < l.length) = true := decide_eq_true (by omega)
  go_enter Try.func7, Try.ntmps7
  go_wp2_with fail
  refine (KK.out _).mono ?_
  rintro e w1 ⟨rfl, hb1⟩
  have g1 : Below w.heap.size w w1 := by refine Below.trans ?_ (hb1.mono ?_) <;> (repeat' (first | (with_reducible (first | exact Below.refl _ _ | assumption | refine below_drewN ?_ _ | refine Below.drew ?_ | refine Below.alloc ?_ ?_ _ | refine Below.setCell ?_ ?_ _)) | go_size))
  have hz1 := hb1.size
  (try simp at hz1)
  clear hb1
  go_wp2_with fail
  refine (KP.out _).mono ?_
  rintro e w2 ⟨rfl, hb2⟩
  have Q2 : Blk w2 (w1.heap.size) #[.int .u16 k.a, .int .u16 k.b, .int .u16 k.c, .int .u16 k.d] 48 := Blk.below (by (repeat' (first | (with_reducible (first | assumption | exact Blk.alloc_new _ _ _ (by first | rfl | (simp; done) | omega) | apply Blk.drewN | apply Blk.drew | apply Blk.alloc_old | apply Blk.set_same | apply Blk.set_other)) | (show (_ : Nat) ≠ _; first | omega | (simp; done) | (simp; omega)) | ((simp only [List.setIfInBounds_toArray, List.set_cons_succ, List.set_cons_zero]); (with_reducible exact rfl)) | (with_reducible exact rfl) | (show (_ : Array Value) = _; exact rfl)))) hb2 (by first | (simp; done) | omega | (simp; omega))
  have g2 : Below w.heap.size w w2 := by refine Below.trans ?_ (hb2.mono ?_) <;> (repeat' (first | (with_reducible (first | exact Below.refl _ _ | assumption | refine below_drewN ?_ _ | refine Below.drew ?_ | refine Below.alloc ?_ ?_ _ | refine Below.setCell ?_ ?_ _)) | go_size))
  have hz2 := hb2.size
  (try simp at hz2)
  clear hb2
  replace cQ := Q2.cell
  replace fQ := Q2.frozen
  replace zQ := Q2.size
  go_wp2_with fail
  refine (KB.out _).mono ?_
  rintro e w3 ⟨rfl, hb3⟩
  have Q3 : Blk w3 (w1.heap.size) #[.int .u16 k.a, .int .u16 k.b, .int .u16 k.c, .int .u16 k.d] 48 := Blk.below (by (repeat' (first | (with_reducible (first | assumption | exact Blk.alloc_new _ _ _ (by first | rfl | (simp; done) | omega) | apply Blk.drewN | apply Blk.drew | apply Blk.alloc_old | apply Blk.set_same | apply Blk.set_other)) | (show (_ : Nat) ≠ _; first | omega | (simp; done) | (simp; omega)) | ((simp only [List.setIfInBounds_toArray, List.set_cons_succ, List.set_cons_zero]); (with_reducible exact rfl)) | (with_reducible exact rfl) | (show (_ : Array Value) = _; exact rfl)))) hb3 (by first | (simp; done) | omega | (simp; omega))
  have P3 : Blk w3 (w2.heap.size) #[.int .u64 0, .int .i64 0, .int .u16 0, .int .u16 0, .int .u16 0, .int .u16 0] 50 := Blk.below (by (repeat' (first | (with_reducible (first | assumption | exact Blk.alloc_new _ _ _ (by first | rfl | (simp; done) | omega) | apply Blk.drewN | apply Blk.drew | apply Blk.alloc_old | apply Blk.set_same | apply Blk.set_other)) | (show (_ : Nat) ≠ _; first | omega | (simp; done) | (simp; omega)) | ((simp only [List.setIfInBounds_toArray, List.set_cons_succ, List.set_cons_zero]); (with_reducible exact rfl)) | (with_reducible exact rfl) | (show (_ : Array Value) = _; exact rfl)))) hb3 (by first | (simp; done) | omega | (simp; omega))
  have g3 : Below w.heap.size w w3 := by refine Below.trans ?_ (hb3.mono ?_) <;> (repeat' (first | (with_reducible (first | exact Below.refl _ _ | assumption | refine below_drewN ?_ _ | refine Below.drew ?_ | refine Below.alloc ?_ ?_ _ | refine Below.setCell ?_ ?_ _)) | go_size))
  have hz3 := hb3.size
  (try simp at hz3)
  clear hb3
  replace cQ := Q3.cell
  replace fQ := Q3.frozen
  replace zQ := Q3.size
  replace cP := P3.cell
  replace fP := P3.frozen
  replace zP := P3.size
  go_upto_region 6 with (fail)
  refine wp_forget (fun v => Below w.heap.size w v ∧ Blk v (w1.heap.size) #[.int .u16 k.a, .int .u16 k.b, .int .u16 k.c, .int .u16 k.d] 48 ∧ Blk v (w2.heap.size) #[.int .u64 0, .int .i64 0, .int .u16 0, .int .u16 0, .int .u16 0, .int .u16 0] 50) ⟨by (repeat' (first | (with_reducible (first | exact Below.refl _ _ | assumption | refine below_drewN ?_ _ | refine Below.drew ?_ | refine Below.alloc ?_ ?_ _ | refine Below.setCell ?_ ?_ _)) | go_size)), by (repeat' (first | (with_reducible (first | assumption | exact Blk.alloc_new _ _ _ (by first | rfl | (simp; done) | omega) | apply Blk.drewN | apply Blk.drew | apply Blk.alloc_old | apply Blk.set_same | apply Blk.set_other)) | (show (_ : Nat) ≠ _; first | omega | (simp; done) | (simp; omega)) | ((simp only [List.setIfInBounds_toArray, List.set_cons_succ, List.set_cons_zero]); (with_reducible exact rfl)) | (with_reducible exact rfl) | (show (_ : Array Value) = _; exact rfl))), by (repeat' (first | (with_reducible (first | assumption | exact Blk.alloc_new _ _ _ (by first | rfl | (simp; done) | omega) | apply Blk.drewN | apply Blk.drew | apply Blk.alloc_old | apply Blk.set_same | apply Blk.set_other)) | (show (_ : Nat) ≠ _; first | omega | (simp; done) | (simp; omega)) | ((simp only [List.setIfInBounds_toArray, List.set_cons_succ, List.set_cons_zero]); (with_reducible exact rfl)) | (with_reducible exact rfl) | (show (_ : Array Value) = _; exact rfl)))⟩ ?_
  rintro v4 ⟨gv4, Qv4, Pv4⟩
  have qQ4 := blk_calm Qv4
  have qP4 := blk_calm Pv4
  refine wp_region_quiet_below (by kernel_rfl) (by kernel_rfl) ?_
  repeat (go_big_quiet_step ((first
      | (go_at_call 30; (with_reducible exact Calls.regrown_of (KR.out _))))))
  refine wpQuiet_nil ?_
  intro _ hw'
  obtain ⟨pq, hw''⟩ := hw'
  subst hw''
  have hb4 := below_regrown v4 pq.d pq.os
  generalize Sort.grow (redrawn v4 pq.d) pq.os = w4 at *
  have Q4 : Blk w4 (w1.heap.size) #[.int .u16 k.a, .int .u16 k.b, .int .u16 k.c, .int .u16 k.d] 48 := Blk.below Qv4 hb4 Qv4.size
  have P4 : Blk w4 (w2.heap.size) #[.int .u64 0, .int .i64 0, .int .u16 0, .int .u16 0, .int .u16 0, .int .u16 0] 50 := Blk.below Pv4 hb4 Pv4.size
  have g4 : Below w.heap.size w w4 := gv4.trans (hb4.mono gv4.size)
  have hz4 : w.heap.size ≤ w4.heap.size := g4.size
  clear hb4 gv4 Qv4 qQ4 Pv4 qP4
  replace cQ := Q4.cell
  replace fQ := Q4.frozen
  replace zQ := Q4.size
  replace cP := P4.cell
  replace fP := P4.frozen
  replace zP := P4.size
  go_wp2_with fail
  refine (names_true _).mono ?_
  rintro e w5 ⟨rfl, hb5⟩
  have g5 : Below w.heap.size w w5 := by refine Below.trans ?_ (hb5.mono ?_) <;> (repeat' (first | (with_reducible (first | exact Below.refl _ _ | assumption | refine below_drewN ?_ _ | refine Below.drew ?_ | refine Below.alloc ?_ ?_ _ | refine Below.setCell ?_ ?_ _)) | go_size))
  have hz5 := hb5.size
  (try simp at hz5)
  clear hb5
  go_wp2
  go_ret
  exact ⟨rfl, by (repeat' (first | (with_reducible (first | exact Below.refl _ _ | assumption | refine below_drewN ?_ _ | refine Below.drew ?_ | refine Below.alloc ?_ ?_ _ | refine Below.setCell ?_ ?_ _)) | go_size))⟩
set_option maxRecDepth 100000 in
set_option maxHeartbeats 4000000 in
theorem keys_ok (l : List Int) (id most x : Int) (k : K4) (w : World) (hid : 0 ≤ id ∧ id ≤ 18446744073709551615) (hmo : -9223372036854775808 ≤ most ∧ most ≤ 9223372036854775807) (hb : l.length ≤ 4611686018427387904) (h1 : ¬ most < (l.length : Int)) (h2 : l.length ≤ 16384)
    (KK : Hid (∀ v, Calls Try.prog 26 #[SV l] v fun e w' => e = .returned (.tuple #[.agg #[.int .u16 k.a, .int .u16 k.b, .int .u16 k.c, .int .u16 k.d], .int .i64 0]) ∧ Below v.heap.size v w'))
    (KP : Hid (∀ v, Calls Try.prog 27 #[.int .u64 id, SV l, .int .i64 most] v fun e w' => e = .returned (.tuple #[.agg #[.int .u64 id, .int .i64 l.length, .int .u16 k.a, .int .u16 k.b, .int .u16 k.c, .int .u16 k.d], .int .i64 0]) ∧ Below v.heap.size v w'))
    (KB : Hid (∀ v, Calls Try.prog 28 #[SV l] v fun e w' => e = .returned (.int .i64 0) ∧ Below v.heap.size v w'))
    (KR : Hid (∀ v, Calls Try.prog 30 #[SV l] v fun e w' => e = .returned (.agg #[.int .u16 k.a, .int .u16 k.b, .int .u16 k.c, .int .u16 k.d]) ∧ Below v.heap.size v w')) :
    Calls Try.prog 7 #[SV l, .int .u64 id, .int .i64 most] w fun e w' => e = .returned (.bool true) ∧ Below w.heap.size w w' := by
  have ks := sv_size
  have q1 : ∀ v, (binOp .eql 48 (.agg #[.int .u16 0, .int .u16 0, .int .u16 0, .int .u16 0]) (.agg #[.int .u16 0, .int .u16 0, .int .u16 0, .int .u16 0])).run Try.prog v = .ok (.bool true) v := keq ⟨0, 0, 0, 0⟩
  have q2 : ∀ v, (binOp .eql 50 (.agg #[.int .u64 0, .int .i64 0, .int .u16 0, .int .u16 0, .int .u16 0, .int .u16 0]) (.agg #[.int .u64 0, .int .i64 0, .int .u16 0, .int .u16 0, .int .u16 0, .int .u16 0])).run Try.prog v = .ok (.bool true) v := pkeq 0 0 ⟨0, 0, 0, 0⟩
  have q3 : ∀ v, (binOp .neq 48 (.agg #[.int .u16 k.a, .int .u16 k.b, .int .u16 k.c, .int .u16 k.d]) (.agg #[.int .u16 k.a, .int .u16 k.b, .int .u16 k.c, .int .u16 k.d])).run Try.prog v = .ok (.bool false) v := kneq k
  have q4 : ∀ v, (binOp .eql 50 (.agg #[.int .u64 id, .int .i64 l.length, .int .u16 k.a, .int .u16 k.b, .int .u16 k.c, .int .u16 k.d]) (.agg #[.int .u64 id, .int .i64 l.length, .int .u16 k.a, .int .u16 k.b, .int .u16 k.c, .int .u16 k.d])).run Try.prog v = .ok (.bool true) v := pkeq id l.length k
  have d1 : decide (most < (l.length : Int)) = false := decide_eq_false h1
  have d2 : decide (16384 < (l.length : Int)) = false := decide_eq_false (by omega)
  have d2n : decide (16384 < l.length) = false := decide_eq_false (by omega)
  go_enter Try.func7, Try.ntmps7
  go_wp2_with fail
  refine (KK.out _).mono ?_
  rintro e w1 ⟨rfl, hb1⟩
  have g1 : Below w.heap.size w w1 := by refine Below.trans ?_ (hb1.mono ?_) <;> (repeat' (first | (with_reducible (first | exact Below.refl _ _ | assumption | refine below_drewN ?_ _ | refine Below.drew ?_ | refine Below.alloc ?_ ?_ _ | refine Below.setCell ?_ ?_ _)) | go_size))
  have hz1 := hb1.size
  (try simp at hz1)
  clear hb1
  go_wp2_with fail
  refine (KP.out _).mono ?_
  rintro e w2 ⟨rfl, hb2⟩
  have Q2 : Blk w2 (w1.heap.size) #[.int .u16 k.a, .int .u16 k.b, .int .u16 k.c, .int .u16 k.d] 48 := Blk.below (by (repeat' (first | (with_reducible (first | assumption | exact Blk.alloc_new _ _ _ (by first | rfl | (simp; done) | omega) | apply Blk.drewN | apply Blk.drew | apply Blk.alloc_old | apply Blk.set_same | apply Blk.set_other)) | (show (_ : Nat) ≠ _; first | omega | (simp; done) | (simp; omega)) | ((simp only [List.setIfInBounds_toArray, List.set_cons_succ, List.set_cons_zero]); (with_reducible exact rfl)) | (with_reducible exact rfl) | (show (_ : Array Value) = _; exact rfl)))) hb2 (by first | (simp; done) | omega | (simp; omega))
  have g2 : Below w.heap.size w w2 := by refine Below.trans ?_ (hb2.mono ?_) <;> (repeat' (first | (with_reducible (first | exact Below.refl _ _ | assumption | refine below_drewN ?_ _ | refine Below.drew ?_ | refine Below.alloc ?_ ?_ _ | refine Below.setCell ?_ ?_ _)) | go_size))
  have hz2 := hb2.size
  (try simp at hz2)
  clear hb2
  replace cQ := Q2.cell
  replace fQ := Q2.frozen
  replace zQ := Q2.size
  go_wp2_with fail
  refine (KB.out _).mono ?_
  rintro e w3 ⟨rfl, hb3⟩
  have Q3 : Blk w3 (w1.heap.size) #[.int .u16 k.a, .int .u16 k.b, .int .u16 k.c, .int .u16 k.d] 48 := Blk.below (by (repeat' (first | (with_reducible (first | assumption | exact Blk.alloc_new _ _ _ (by first | rfl | (simp; done) | omega) | apply Blk.drewN | apply Blk.drew | apply Blk.alloc_old | apply Blk.set_same | apply Blk.set_other)) | (show (_ : Nat) ≠ _; first | omega | (simp; done) | (simp; omega)) | ((simp only [List.setIfInBounds_toArray, List.set_cons_succ, List.set_cons_zero]); (with_reducible exact rfl)) | (with_reducible exact rfl) | (show (_ : Array Value) = _; exact rfl)))) hb3 (by first | (simp; done) | omega | (simp; omega))
  have P3 : Blk w3 (w2.heap.size) #[.int .u64 id, .int .i64 l.length, .int .u16 k.a, .int .u16 k.b, .int .u16 k.c, .int .u16 k.d] 50 := Blk.below (by (repeat' (first | (with_reducible (first | assumption | exact Blk.alloc_new _ _ _ (by first | rfl | (simp; done) | omega) | apply Blk.drewN | apply Blk.drew | apply Blk.alloc_old | apply Blk.set_same | apply Blk.set_other)) | (show (_ : Nat) ≠ _; first | omega | (simp; done) | (simp; omega)) | ((simp only [List.setIfInBounds_toArray, List.set_cons_succ, List.set_cons_zero]); (with_reducible exact rfl)) | (with_reducible exact rfl) | (show (_ : Array Value) = _; exact rfl)))) hb3 (by first | (simp; done) | omega | (simp; omega))
  have g3 : Below w.heap.size w w3 := by refine Below.trans ?_ (hb3.mono ?_) <;> (repeat' (first | (with_reducible (first | exact Below.refl _ _ | assumption | refine below_drewN ?_ _ | refine Below.drew ?_ | refine Below.alloc ?_ ?_ _ | refine Below.setCell ?_ ?_ _)) | go_size))
  have hz3 := hb3.size
  (try simp at hz3)
  clear hb3
  replace cQ := Q3.cell
  replace fQ := Q3.frozen
  replace zQ := Q3.size
  replace cP := P3.cell
  replace fP := P3.frozen
  replace zP := P3.size
  go_upto_region 6 with (fail)
  refine wp_forget (fun v => Below w.heap.size w v ∧ Blk v (w1.heap.size) #[.int .u16 k.a, .int .u16 k.b, .int .u16 k.c, .int .u16 k.d] 48 ∧ Blk v (w2.heap.size) #[.int .u64 id, .int .i64 l.length, .int .u16 k.a, .int .u16 k.b, .int .u16 k.c, .int .u16 k.d] 50) ⟨by (repeat' (first | (with_reducible (first | exact Below.refl _ _ | assumption | refine below_drewN ?_ _ | refine Below.drew ?_ | refine Below.alloc ?_ ?_ _ | refine Below.setCell ?_ ?_ _)) | go_size)), by (repeat' (first | (with_reducible (first | assumption | exact Blk.alloc_new _ _ _ (by first | rfl | (simp; done) | omega) | apply Blk.drewN | apply Blk.drew | apply Blk.alloc_old | apply Blk.set_same | apply Blk.set_other)) | (show (_ : Nat) ≠ _; first | omega | (simp; done) | (simp; omega)) | ((simp only [List.setIfInBounds_toArray, List.set_cons_succ, List.set_cons_zero]); (with_reducible exact rfl)) | (with_reducible exact rfl) | (show (_ : Array Value) = _; exact rfl))), by (repeat' (first | (with_reducible (first | assumption | exact Blk.alloc_new _ _ _ (by first | rfl | (simp; done) | omega) | apply Blk.drewN | apply Blk.drew | apply Blk.alloc_old | apply Blk.set_same | apply Blk.set_other)) | (show (_ : Nat) ≠ _; first | omega | (simp; done) | (simp; omega)) | ((simp only [List.setIfInBounds_toArray, List.set_cons_succ, List.set_cons_zero]); (with_reducible exact rfl)) | (with_reducible exact rfl) | (show (_ : Array Value) = _; exact rfl)))⟩ ?_
  rintro v4 ⟨gv4, Qv4, Pv4⟩
  have qQ4 := blk_calm Qv4
  have qP4 := blk_calm Pv4
  refine wp_region_quiet_below (by kernel_rfl) (by kernel_rfl) ?_
  repeat (go_big_quiet_step ((first
      | (go_at_call 30; (with_reducible exact Calls.regrown_of (KR.out _))))))
  refine wpQuiet_nil ?_
  intro _ hw'
  obtain ⟨pq, hw''⟩ := hw'
  subst hw''
  have hb4 := below_regrown v4 pq.d pq.os
  generalize Sort.grow (redrawn v4 pq.d) pq.os = w4 at *
  have Q4 : Blk w4 (w1.heap.size) #[.int .u16 k.a, .int .u16 k.b, .int .u16 k.c, .int .u16 k.d] 48 := Blk.below Qv4 hb4 Qv4.size
  have P4 : Blk w4 (w2.heap.size) #[.int .u64 id, .int .i64 l.length, .int .u16 k.a, .int .u16 k.b, .int .u16 k.c, .int .u16 k.d] 50 := Blk.below Pv4 hb4 Pv4.size
  have g4 : Below w.heap.size w w4 := gv4.trans (hb4.mono gv4.size)
  have hz4 : w.heap.size ≤ w4.heap.size := g4.size
  clear hb4 gv4 Qv4 qQ4 Pv4 qP4
  replace cQ := Q4.cell
  replace fQ := Q4.frozen
  replace zQ := Q4.size
  replace cP := P4.cell
  replace fP := P4.frozen
  replace zP := P4.size
  go_wp2_with fail
  refine (names_true _).mono ?_
  rintro e w5 ⟨rfl, hb5⟩
  have g5 : Below w.heap.size w w5 := by refine Below.trans ?_ (hb5.mono ?_) <;> (repeat' (first | (with_reducible (first | exact Below.refl _ _ | assumption | refine below_drewN ?_ _ | refine Below.drew ?_ | refine Below.alloc ?_ ?_ _ | refine Below.setCell ?_ ?_ _)) | go_size))
  have hz5 := hb5.size
  (try simp at hz5)
  clear hb5
  go_wp2
  go_ret
  exact ⟨rfl, by (repeat' (first | (with_reducible (first | exact Below.refl _ _ | assumption | refine below_drewN ?_ _ | refine Below.drew ?_ | refine Below.alloc ?_ ?_ _ | refine Below.setCell ?_ ?_ _)) | go_size))⟩
theorem badR_rng (l : List Int) : 0 ≤ badR l ∧ badR l ≤ 7 := by
  unfold badR; repeat' split
  all_goals omega
theorem FlowKeys_walk (a : ByteArray) (id : Int) (hid : 0 ≤ id ∧ id ≤ 18446744073709551615) (most : Int) (hmo : -9223372036854775808 ≤ most ∧ most ≤ 9223372036854775807) (w : World) (hz : a.size ≤ 4611686018427387904) : Calls Try.prog 7 #[.string a, .int .u64 id, .int .i64 most] w fun e w' => e = .returned (.bool true) ∧ Below w.heap.size w w' := by
  rw [numsOf_sv a]
  have hl := numsOf_byt a
  have hb : (numsOf a).length ≤ 4611686018427387904 := by rw [numsOf_len]; exact hz
  generalize numsOf a = l at hl hb ⊢
  have hr := badR_rng l
  by_cases h0 : badR l = 0
  · obtain ⟨k0, k1, k2, k3, k4, k5⟩ := bad_zero h0
    have hsz := szR_eq hl
    have q2 := hl.get 2; have q3 := hl.get 3
    have hal : alR l = l.getD 2 0 * 256 + l.getD 3 0 := rfl
    have hk : fkV l = keyL (hdL l) (bdL l) := by unfold fkV; rw [if_pos h0]
    have KK := hide (show ∀ v, Calls Try.prog 26 #[SV l] v fun e w' => e = .returned (.tuple #[kv (fkV l), .int .i64 0]) ∧ Below v.heap.size v w' from fun v => by have h := flowKey l v hl hb; rw [h0] at h; exact h)
    have KB := hide (show ∀ v, Calls Try.prog 28 #[SV l] v fun e w' => e = .returned (.int .i64 0) ∧ Below v.heap.size v w' from fun v => by have h := ipBad l v hl hb; rw [h0] at h; exact h)
    have KR := hide (show ∀ v, Calls Try.prog 30 #[SV l] v fun e w' => e = .returned (kv (fkV l)) ∧ Below v.heap.size v w' from fun v => by
      rw [hk]
      exact rkey l (bdL l) (hdL l) v (hdL_ok' hl) (bd_byt hl) (by unfold bdL; rw [List.length_drop]; omega) (hide fun v => ipHead l _ (szR l) _ _ _ _ _ _ _ _ _ v hl (by omega) k0 ⟨k1, k2⟩ hsz (by omega) rfl rfl rfl rfl rfl rfl rfl rfl rfl rfl) (hide fun v => ipBody l _ (szR l) v hl (by omega) k0 ⟨k1, k2⟩ hsz (by omega) rfl))
    by_cases h1 : most < l.length
    · exact keys_most l id most 0 (fkV l) w hid hmo hb h1 KK (hide fun v => by
        have h := flowPacket l id most v hl hb hid hmo
        have he : fpE l most = 26 := by unfold fpE; rw [if_pos h0, if_pos (.inl h1)]
        unfold fpV' at h; rw [he, if_neg (by omega)] at h; exact h) KB KR
    by_cases h2 : 16384 < l.length
    · exact keys_long l id most 0 (fkV l) w hid hmo hb h1 h2 KK (hide fun v => by
        have h := flowPacket l id most v hl hb hid hmo
        have he : fpE l most = 26 := by unfold fpE; rw [if_pos h0, if_pos (.inr h2)]
        unfold fpV' at h; rw [he, if_neg (by omega)] at h; exact h) KB KR
    · exact keys_ok l id most 0 (fkV l) w hid hmo hb h1 (by omega) KK (hide fun v => by
        have h := flowPacket l id most v hl hb hid hmo
        have he : fpE l most = 0 := by unfold fpE; rw [if_pos h0, if_neg (by omega)]
        unfold fpV' at h; rw [he, if_pos rfl] at h; exact h) KB KR
  · exact keys_bad l id most (badR l) ⟨0, 0, 0, 0⟩ w hid hmo hb (by omega) (hide fun v => by have h := flowKey l v hl hb; unfold fkV at h; rw [if_neg h0] at h; exact h) (hide fun v => by
        have h := flowPacket l id most v hl hb hid hmo
        have he : fpE l most = badR l := by unfold fpE; rw [if_neg h0]
        unfold fpV' at h; rw [he, if_neg h0] at h; exact h) (hide fun v => ipBad l v hl hb)
namespace flowKeysDone
theorem own : ownKnob Try.prog.godebug = none := by kernel_rfl
theorem laidOut : laidOutB Try.prog = true := by kernel_rfl
set_option maxRecDepth 100000 in
theorem lifted (os : Os) (started : os.Started) (H : Type) (enc : TypeId × Value → H) :
    ReturnsInHanded {} Try.checked os 7 .any (Rows.flowKeysSpec.pre6 enc Try.prog Try.f7 Rows.flowKeysRow.domain false) (Rows.flowKeysSpec.post enc Try.prog Try.f7 false true false false) := by
  refine returnsInHanded_of_change_sized (C := Try.checked) own started (by kernel_rfl) Try.func7
    (ChangeSpec.witness6 (enc := enc) (C := Try.checked) false ⟨#[], #[.string ⟨#[]⟩, .int .u64 0, .int .i64 0], []⟩ 8 (by kernel_rfl) (by kernel_rfl) (by kernel_rfl) (by kernel_rfl)) ?_
  intro W base args ds gs before hval0 hW hcnd hwt _
  have hval : ∀ (j : Nat) t v, Try.f7.params[j]? = some t → args[j]? = some v → Value.okWide Try.prog W .any base t v := hval0
  have hW' := hW
  obtain ⟨p, q, hA0, hV, rfl, hfz, hnd⟩ := hW
  have hA : DataW.TrodAll enc Try.prog W 0 (fun _ => true) true Try.f7.params.toList args.toList ds p := hA0
  rw [Try.params7] at hA hval
  obtain ⟨v0, vs0, d0, ds0, p0, q0, hargs, rfl, rfl, h0, r0⟩ := trodAll_cons hA
  obtain ⟨v1, vs1, d1, ds1, p1, q1, rfl, rfl, rfl, h1, r1⟩ := trodAll_cons r0
  obtain ⟨v2, vs2, d2, ds2, p2, q2, rfl, rfl, rfl, h2, r2⟩ := trodAll_cons r1
  obtain ⟨rfl, rfl, rfl⟩ := trodAll_nil r2
  obtain rfl : args = #[v0, v1, v2] := by cases args; simp_all
  obtain ⟨rfl, rfl⟩ := trodVars_none hV
  obtain ⟨a0, rfl, rfl, rfl, wf0⟩ := open_string Try.underlying9 (hval 0 9 v0 rfl rfl) h0
  obtain ⟨a1, rfl, rfl, rfl, wf1⟩ := open_int Try.underlying43 (hval 1 43 v1 rfl rfl) h1
  have b1 := bounds_u64 wf1
  obtain ⟨a2, rfl, rfl, rfl, wf2⟩ := open_int Try.underlying3 (hval 2 3 v2 rfl rfl) h2
  have b2 := bounds_i64 wf2
  clear hA0 hval0
  have hz0 : a0.size ≤ 4611686018427387904 := by simp [DataW.weightsEach, DataW.weights, Try.params7, reachBytes] at hwt; have := of_decide_eq_true hwt; omega
  refine (FlowKeys_walk a0 a1 b1 a2 b2 W hz0).mono fun e W' ⟨he, bel⟩ => ?_
  subst he
  exact ⟨_, rfl, _, _, _, [], _, [], hW', trodAll_mk1 (shut_bool Try.underlying4 _), (trodAll_cons_mk (shut_string Try.underlying9 wf0) (trodAll_cons_mk (shut_int Try.underlying43 wf1) (trodAll_cons_mk (shut_int Try.underlying3 wf2) trodAll_mk0))), rfl, bel.frame _, fun h => by cases h⟩
theorem over : Rows.flowKeysRow.holds Try.pinned (OpenSpec.ofChange Rows.flowKeysSpec) :=
  OpenClaim.holds_of_wide 7 Try.f7 rfl rfl rfl rfl rfl rfl rfl ⟨rfl, rfl, rfl, rfl, rfl⟩ rfl rfl rfl rfl rfl (by kernel_rfl) Try.func7 (by kernel_rfl)
    (of_decide_eq_true (by kernel_rfl)) (by unfold Func.isWrapper; first | (rw [if_pos (by decide +kernel)]; kernel_rfl) | (rw [if_neg (by decide +kernel)]; exact ⟨rfl, rfl⟩))
    (fun os started H enc _ => lifted os started H enc)
end flowKeysDone
theorem FlowKeys_holds : Rows.FlowKeysSaid := flowKeysDone.over

end Go.Proofs.Ytljpiofpfankoaa
